import PyProof.Rows.All
import Wide.All
import OpenK.AllK
import Wide.FinOn
import HandS.ForMost
import HandS.Wide
import KE.KDictKeyed
import HandS.TupAny
import HandS.IsInst
import HandS.Style
import HandS.Deep
import HandS.TupMul
import KE.LtData
import KE.DataCmp
import KE.SortData
import KE.DataEq
import PyProof.StrOps2
import KE.KDictCopyH
import KE.KDictSum
import HandS.More
import HandS.SetKeys
import HandS.TupLen
import HandS.Text
import HandS.Codes
import HandS.SortInts
import HandS.RaiseMore
import HandS.FStr
import HandS.Zip
import HandS.TryOnly
import HandS.Replace
import HandS.DictComp
import PyProof.CollectIter
import KE.GoesMore
import PyProof.Draws
import PyProof.EnumMake
import HandS.Sort
import KE.KDictPairs
import KE.DatumOrd
import KE.DatumMore
import KE.DatumMoreOrd
import KE.IntTextLaws
import PySem.Challenge.RW_wareyard_k33_whole_bounds_read_together
set_option Elab.async false
set_option linter.all false
set_option maxRecDepth 100000
/-! Dt0: data by value over the hand layer: what a value stands for (Rep), a frame's slots (FR), expressions, statements, calls as plain functions. -/
namespace Dt
open PySem PySem.Spec L2
open PyProof.Rows hiding St

abbrev D := PyData
/-- the written part, and the world (what hash(text) is) -/
structure Fg where
  k : PySem.W.Frag
  w : World
instance : Coe Fg PySem.W.Frag := ⟨Fg.k⟩
abbrev _root_.L2.Cx.F (X : Cx) : Fg := ⟨X.K, X.w⟩

/-- what stays: tuples and what is locked -/
structure Kp (H H' : Hp) : Prop where
  tup : ∀ a xs, H a = some (.tup xs) → H' a = some (.tup xs)
  frz : ∀ a o u, H a = some (.frz o u) → H' a = some (.frz o u)
theorem Kp.refl (H : Hp) : Kp H H := ⟨fun _ _ h => h, fun _ _ _ h => h⟩
theorem Kp.trans {H H1 H2 : Hp} (a : Kp H H1) (b : Kp H1 H2) : Kp H H2 := ⟨fun x o h => b.tup _ _ (a.tup _ _ h), fun x o u h => b.frz _ _ _ (a.frz _ _ _ h)⟩
theorem Kp.same {H H' : Hp} (h : Same H H') : Kp H H' := ⟨fun _ _ e => h _ _ e, fun _ _ _ e => h _ _ e⟩
theorem same_new {H : Hp} {p : Addr} {o : HO} (h : H p = none) : Same H (upd H p o) := fun b x e => by
  rw [upd_ne (ne_of_none e h)]
  exact e
/-- what may be changed: no tuple, nothing locked -/
def Loose (o : HO) : Prop := (∀ xs, o ≠ .tup xs) ∧ ∀ b u, o ≠ .frz b u
theorem loose_lst {xs : List V} : Loose (.lst xs) := ⟨fun _ h => (nomatch h), fun _ _ h => (nomatch h)⟩
theorem loose_dK {xs : List (Key × V)} : Loose (.dK xs) := ⟨fun _ h => (nomatch h), fun _ _ h => (nomatch h)⟩
theorem loose_dT {xs : List (List Key × V)} : Loose (.dT xs) := ⟨fun _ h => (nomatch h), fun _ _ h => (nomatch h)⟩
theorem loose_ins {C dx : Addr} {fs : List (Str × V)} : Loose (.ins C dx fs) := ⟨fun _ h => (nomatch h), fun _ _ h => (nomatch h)⟩
theorem loose_ext {φ : Heap → Prop} : Loose (.ext φ) := ⟨fun _ h => (nomatch h), fun _ _ h => (nomatch h)⟩
theorem Kp.upd {H : Hp} {p : Addr} {o u : HO} (h : H p = some o) (l : Loose o) : Kp H (upd H p u) := ⟨fun a xs e => by
    rw [upd_ne (ne_of e h fun z => l.1 _ z.symm)]; exact e, fun a b x e => by
    rw [upd_ne (ne_of e h fun z => l.2 _ _ z.symm)]; exact e⟩

def keyD : Key → D
  | .inl i => .int i
  | .inr x => .str x

/-- a dict whose keys are tuples (of ints, texts, None, tuples): what is true of its object -/
def NdOk (w : World) (a : Addr) (kks : List NestedKey) (kvs : List (V × V)) (h : Heap) : Prop :=
  kvs.length ≤ sizeLine ∧ (a == sysModules) = false ∧ kks.Nodup ∧ ∃ xs : List (NestedKey × Addr × Value), xs.map (·.1) = kks ∧
    Paired (fun (p : V × V) (q : NestedKey × Addr × Value) => p.1 = .ref q.2.1 ∧ RelV p.2 q.2.2) kvs xs ∧
    ∃ o es ep, h.get? a = some o ∧ o.ExactDict ∧ o.data = .dict es ep ∧ es.toList = xs.map fun x => ⟨x.1.hash w, .ref x.2.1, x.2.2⟩
abbrev NdO (w : World) (a : Addr) (kks : List NestedKey) (kvs : List (V × V)) : HO := .ext (NdOk w a kks kvs)
def kOk (k : NestedKey) : Bool := decide (k.depth ≤ 8) && match k with | .tup _ => true | _ => false
/-- dicts as data: those with tuple keys are marked; instances, defs likewise -/
def ndD (kvs : List (D × D)) : D := .dict ((.list [], .none) :: kvs)
def insD (c : Str) (kvs : List (D × D)) : D := .dict ((.none, .str c) :: kvs)
def fnD (n : Str) : D := .dict [(.none, .none), (.none, .str n)]
/-- a list that is locked, or the module's own -/
def LstF (K : Fg) (H : Hp) (a : Addr) (xs : List V) : Prop :=
  (∃ o, H a = some (.frz o (.lst xs))) ∨
    ∃ (o : Obj) (its : Array Value) (n : Nat), K.k.lookup a = some o ∧ o.cls = .type "list" ∧ o.dict = none ∧ o.data = .seq its n ∧ its.size ≤ sizeLine ∧ Vals xs its.toList
theorem LstF.sq {K : Fg} {H : Hp} {a : Addr} {xs : List V} (h : LstF K H a xs) : SqL K H a xs := by
  rcases h with ⟨o, h⟩ | h
  · exact .inl (.inr ⟨o, h⟩)
  · exact .inr h
theorem LstF.kp {K : Fg} {H H' : Hp} {a : Addr} {xs : List V} (k : Kp H H') (h : LstF K H a xs) : LstF K H' a xs := by
  rcases h with ⟨o, h⟩ | h
  · exact .inl ⟨o, k.frz _ _ _ h⟩
  · exact .inr h
theorem sqT_kp {K : Fg} {H H' : Hp} {a : Addr} {xs : List V} (k : Kp H H') (h : SqT K H a xs) : SqT K H' a xs := by
  rcases h with (h | ⟨o, h⟩) | h
  · exact .inl (.inl (k.tup _ _ h))
  · exact .inl (.inr ⟨o, k.frz _ _ _ h⟩)
  · exact .inr h

mutual
/-- the value stands for the data; nothing of it is changed any more -/
inductive Rep (K : Fg) (H : Hp) : V → D → Prop
  | non : Rep K H .non .none
  | bl (b : Bool) : Rep K H (.bl b) (.bool b)
  | int (i : Int) : Rep K H (.int i) (.int i)
  | str (x : Str) : Rep K H (.str x) (.str x)
  | lst {a : Addr} {xs : List V} {ds : List D} : LstF K H a xs → RepAll K H xs ds → Rep K H (.ref a) (.list ds)
  | tup {a : Addr} {xs : List V} {ds : List D} : SqT K H a xs → RepAll K H xs ds → Rep K H (.ref a) (.tuple ds)
  | dK {a : Addr} {o : Obj} {kvs : List (Key × V)} {ds : List D} : H a = some (.frz o (.dK kvs)) → RepAll K H (kvs.map (·.2)) ds → Rep K H (.ref a) (.dict ((kvs.map fun p => keyD p.1).zip ds))
  | dN {a : Addr} {o : Obj} {kks : List NestedKey} {kvs : List (V × V)} {ds : List D} : H a = some (.frz o (NdO K.w a kks kvs)) → kks.all kOk = true → RepAll K H (kvs.map (·.1)) (kks.map NestedKey.data) → RepAll K H (kvs.map (·.2)) ds → Rep K H (.ref a) (ndD ((kks.map NestedKey.data).zip ds))
  | ins {a C dx : Addr} {o : Obj} {fs : List (Str × V)} {c : Str} {ds : List D} : H a = some (.frz o (.ins C dx fs)) → PySem.W.nsIn K.k mainGlobals c = some (some (.ref C)) → RepAll K H (fs.map (·.2)) ds → Rep K H (.ref a) (insD c ((fs.map fun p => .str p.1).zip ds))
  | fn {a : Addr} {n : Str} : PySem.W.nsIn K.k mainGlobals n = some (some (.ref a)) → Rep K H (.ref a) (fnD n)
inductive RepAll (K : Fg) (H : Hp) : List V → List D → Prop
  | nil : RepAll K H [] []
  | cons {v : V} {vs : List V} {d : D} {ds : List D} : Rep K H v d → RepAll K H vs ds → RepAll K H (v :: vs) (d :: ds)
end
mutual
theorem Rep.kp {K : Fg} {H H' : Hp} (k : Kp H H') : ∀ {v : V} {d : D}, Rep K H v d → Rep K H' v d
  | _, _, .non => .non
  | _, _, .bl b => .bl b
  | _, _, .int i => .int i
  | _, _, .str x => .str x
  | _, _, .lst h r => .lst (h.kp k) (RepAll.kp k r)
  | _, _, .tup h r => .tup (sqT_kp k h) (RepAll.kp k r)
  | _, _, .dK h r => .dK (k.frz _ _ _ h) (RepAll.kp k r)
  | _, _, .dN h c q r => .dN (k.frz _ _ _ h) c (RepAll.kp k q) (RepAll.kp k r)
  | _, _, .ins h c r => .ins (k.frz _ _ _ h) c (RepAll.kp k r)
  | _, _, .fn h => .fn h
theorem RepAll.kp {K : Fg} {H H' : Hp} (k : Kp H H') : ∀ {vs : List V} {ds : List D}, RepAll K H vs ds → RepAll K H' vs ds
  | _, _, .nil => .nil
  | _, _, .cons h r => .cons (Rep.kp k h) (RepAll.kp k r)
end
section
variable {K : Fg} {H : Hp}
theorem RepAll.len : ∀ {vs : List V} {ds : List D}, RepAll K H vs ds → vs.length = ds.length
  | _, _, .nil => rfl
  | _, _, .cons _ r => by rw [List.length_cons, List.length_cons, RepAll.len r]
theorem RepAll.append : ∀ {vs ws : List V} {ds es : List D}, RepAll K H vs ds → RepAll K H ws es → RepAll K H (vs ++ ws) (ds ++ es)
  | _, _, _, _, .nil, s => s
  | _, _, _, _, .cons h r, s => .cons h (RepAll.append r s)
theorem RepAll.get : ∀ {vs : List V} {ds : List D} {i : Nat} {d : D}, RepAll K H vs ds → ds[i]? = some d → ∃ v, vs[i]? = some v ∧ Rep K H v d
  | _, _, _, _, .nil, e => by simp at e
  | _, _, 0, _, .cons h _, e => by simp at e; subst e; exact ⟨_, rfl, h⟩
  | _, _, i + 1, d, .cons _ r, e => by
    obtain ⟨v, h1, h2⟩ := RepAll.get (i := i) (d := d) r (by simpa using e)
    exact ⟨v, by simpa using h1, h2⟩
theorem RepAll.getV : ∀ {vs : List V} {ds : List D} {i : Nat} {v : V}, RepAll K H vs ds → vs[i]? = some v → ∃ d, ds[i]? = some d ∧ Rep K H v d
  | _, _, _, _, .nil, e => by simp at e
  | _, _, 0, _, .cons h _, e => by simp at e; subst e; exact ⟨_, rfl, h⟩
  | _, _, i + 1, d, .cons _ r, e => by
    obtain ⟨v, h1, h2⟩ := RepAll.getV (i := i) (v := d) r (by simpa using e)
    exact ⟨v, by simpa using h1, h2⟩
theorem RepAll.take : ∀ {vs : List V} {ds : List D} (n : Nat), RepAll K H vs ds → RepAll K H (vs.take n) (ds.take n)
  | _, _, 0, _ => .nil
  | _, _, _ + 1, .nil => .nil
  | _, _, n + 1, .cons h r => .cons h (RepAll.take n r)
theorem RepAll.drop : ∀ {vs : List V} {ds : List D} (n : Nat), RepAll K H vs ds → RepAll K H (vs.drop n) (ds.drop n)
  | _, _, 0, r => r
  | _, _, _ + 1, .nil => .nil
  | _, _, n + 1, .cons _ r => RepAll.drop n r
theorem RepAll.set {v : V} {d : D} (h : Rep K H v d) : ∀ {vs : List V} {ds : List D} (i : Nat), RepAll K H vs ds → RepAll K H (vs.set i v) (ds.set i d)
  | _, _, _, .nil => .nil
  | _, _, 0, .cons _ r => .cons h r
  | _, _, i + 1, .cons q r => .cons q (RepAll.set h i r)
theorem RepAll.reverse {vs : List V} {ds : List D} (h : RepAll K H vs ds) : RepAll K H vs.reverse ds.reverse := by
  induction vs generalizing ds with
  | nil => cases h; exact .nil
  | cons v vs ih =>
    cases h with
    | cons h r =>
      rw [List.reverse_cons, List.reverse_cons]
      exact (ih r).append (.cons h .nil)
end

/-! ### a frame's slots -/
/-- what is still changed: a list, a dict -/
inductive O where
  | lst (ds : List D)
  | dct (kvs : List (D × D))
  | dnt (kvs : List (D × D))
def O.toD : O → D
  | .lst ds => .list ds
  | .dct kvs => .dict kvs
  | .dnt kvs => ndD kvs
/-- a slot: nothing that counts; data; an object of the frame's own; one of the caller's, lent -/
inductive Sl where
  | un
  | imm (d : D)
  | own (o : O)
  | bor (o : O)
abbrev SS := List Sl
def Sl.obj : Sl → Option O
  | .own o => some o
  | .bor o => some o
  | _ => none
def Sl.put (s : Sl) (o : O) : Sl := match s with
  | .own _ => .own o
  | .bor _ => .bor o
  | s => s
def OwnAt (K : Fg) (H : Hp) (p : Addr) : O → Prop
  | .lst ds => ∃ xs, H p = some (.lst xs) ∧ RepAll K H xs ds
  | .dct ds => ∃ kvs es, H p = some (.dK kvs) ∧ RepAll K H (kvs.map (·.2)) es ∧ ds = (kvs.map fun p => keyD p.1).zip es
  | .dnt ds => ∃ kks kvs es, H p = some (NdO K.w p kks kvs) ∧ kks.all kOk = true ∧ RepAll K H (kvs.map (·.1)) (kks.map NestedKey.data) ∧ RepAll K H (kvs.map (·.2)) es ∧ ds = (kks.map NestedKey.data).zip es
theorem OwnAt.kp {K : Fg} {H H' : Hp} {p : Addr} {o : O} (k : Kp H H') (e : H' p = H p) (h : OwnAt K H p o) : OwnAt K H' p o := by
  cases o with
  | lst ds => obtain ⟨xs, h1, h2⟩ := h; exact ⟨xs, e.trans h1, h2.kp k⟩
  | dct ds => obtain ⟨kvs, es, h1, h2, h3⟩ := h; exact ⟨kvs, es, e.trans h1, h2.kp k, h3⟩
  | dnt ds => obtain ⟨kks, kvs, es, h1, h0, h2, h3, h4⟩ := h; exact ⟨kks, kvs, es, e.trans h1, h0, h2.kp k, h3.kp k, h4⟩
theorem OwnAt.loose {K : Fg} {H : Hp} {p : Addr} {o : O} (h : OwnAt K H p o) : ∃ u, H p = some u ∧ Loose u ∧ Mut (some u) ∧ ∀ od, Rep K (upd H p (.frz od u)) (.ref p) o.toD := by
  cases o with
  | lst ds =>
    obtain ⟨xs, h1, h2⟩ := h
    exact ⟨_, h1, loose_lst, trivial, fun od => .lst (.inl ⟨od, upd_same⟩) (h2.kp (Kp.upd h1 loose_lst))⟩
  | dct ds =>
    obtain ⟨kvs, es, h1, h2, rfl⟩ := h
    exact ⟨_, h1, loose_dK, trivial, fun od => .dK (o := od) upd_same (h2.kp (Kp.upd h1 loose_dK))⟩
  | dnt ds =>
    obtain ⟨kks, kvs, es, h1, h0, h2, h3, rfl⟩ := h
    exact ⟨_, h1, loose_ext, trivial, fun od => .dN (o := od) upd_same h0 (h2.kp (Kp.upd h1 loose_ext)) (h3.kp (Kp.upd h1 loose_ext))⟩

/-- the heap at the entry; which slots hold lent objects, and where -/
structure Fx where
  H0 : Hp
  P : Nat → Option Addr
def SlOk (K : Fg) (fx : Fx) (H : Hp) (i : Nat) (x : Option (Option V)) : Sl → Prop
  | .un => True
  | .imm d => ∃ v, x = some (some v) ∧ Rep K H v d
  | .own o => ∃ p, x = some (some (.ref p)) ∧ OwnAt K H p o ∧ fx.H0 p = none
  | .bor o => ∃ p, x = some (some (.ref p)) ∧ OwnAt K H p o ∧ fx.P i = some p
structure FR (K : Fg) (fx : Fx) (ss : SS) (σ : St) (H : Hp) : Prop where
  len : σ.length = ss.length
  kp : Kp fx.H0 H
  rest : ∀ a o, fx.H0 a = some o → (∀ i, fx.P i ≠ some a) → H a = some o
  there : ∀ a, H a = none → fx.H0 a = none
  slot : ∀ i sl, ss[i]? = some sl → SlOk K fx H i σ[i]? sl
  dis : ∀ (i j : Nat) (p : Addr) (si sj : Sl) (oi oj : O), ss[i]? = some si → ss[j]? = some sj → si.obj = some oi → sj.obj = some oj → σ[i]? = some (some (.ref p)) → σ[j]? = some (some (.ref p)) → i = j
section
variable {K : Fg} {fx : Fx} {ss : SS} {σ : St} {H H' : Hp}
theorem SlOk.obj {i : Nat} {x : Option (Option V)} {sl : Sl} {o : O} (h : SlOk K fx H i x sl) (e : sl.obj = some o) : ∃ p, x = some (some (.ref p)) ∧ OwnAt K H p o ∧ (fx.H0 p = none ∨ fx.P i = some p) := by
  cases sl with
  | un => cases e
  | imm d => cases e
  | own u => cases e; obtain ⟨p, a, b, c⟩ := h; exact ⟨p, a, b, .inl c⟩
  | bor u => cases e; obtain ⟨p, a, b, c⟩ := h; exact ⟨p, a, b, .inr c⟩
/-- a change at a place that no slot holds -/
theorem FR.other {p : Addr} {u o : HO} (f : FR K fx ss σ H) (h0 : fx.H0 p = none) (hp : ∀ u', H p = some u' → Loose u') (hn : ∀ (i : Nat) (si : Sl) (oi : O), ss[i]? = some si → si.obj = some oi → σ[i]? ≠ some (some (.ref p))) : FR K fx ss σ (upd H p o) := by
  have k : Kp H (upd H p o) := by
    cases e : H p with
    | none => exact .same (same_new e)
    | some u' => exact .upd e (hp _ e)
  refine ⟨f.len, f.kp.trans k, fun a x e hP => ?_, fun a e => ?_, fun i sl e => ?_, f.dis⟩
  · have ne : a ≠ p := ne_of_none e h0
    rw [upd_ne ne]
    exact f.rest a x e hP
  · by_cases ea : a = p
    · rw [ea]; exact h0
    · rw [upd_ne ea] at e
      exact f.there a e
  · have q := f.slot i sl e
    cases sl with
    | un => trivial
    | imm d => obtain ⟨v, a, b⟩ := q; exact ⟨v, a, b.kp k⟩
    | own x => 
      obtain ⟨r, a, b, c⟩ := q
      have ne : r ≠ p := fun z => hn i _ x e rfl (by rw [a, z])
      exact ⟨r, a, b.kp k (upd_ne ne), c⟩
    | bor x => 
      obtain ⟨r, a, b, c⟩ := q
      have ne : r ≠ p := fun z => hn i _ x e rfl (by rw [a, z])
      exact ⟨r, a, b.kp k (upd_ne ne), c⟩
theorem FR.root {i : Nat} {si : Sl} {oi : O} {p : Addr} (f : FR K fx ss σ H) (e : ss[i]? = some si) (eo : si.obj = some oi) (es : σ[i]? = some (some (.ref p))) : ∃ u, H p = some u ∧ Loose u := by
  obtain ⟨q, a, b, _⟩ := (f.slot i si e).obj eo
  rw [a] at es
  cases es
  obtain ⟨u, h1, h2, _⟩ := b.loose
  exact ⟨u, h1, h2⟩
/-- a new object -/
theorem FR.new {p : Addr} {o : HO} (f : FR K fx ss σ H) (h : H p = none) : FR K fx ss σ (upd H p o) :=
  f.other (u := o) (f.there p h) (fun u' e => by rw [h] at e; cases e) fun i si oi e eo es => by
    obtain ⟨u, h1, _⟩ := f.root e eo es
    rw [h] at h1; cases h1
/-- a new object, tracked nowhere -/
def NewAt (fx : Fx) (ss : SS) (σ : St) (p : Addr) : Prop := fx.H0 p = none ∧ ∀ (i : Nat) (si : Sl) (oi : O), ss[i]? = some si → si.obj = some oi → σ[i]? ≠ some (some (.ref p))
theorem FR.newAt {p : Addr} (f : FR K fx ss σ H) (h : H p = none) : NewAt fx ss σ p := ⟨f.there p h, fun i si oi e eo es => by
    obtain ⟨u, h1, _⟩ := f.root e eo es
    rw [h] at h1; cases h1⟩
theorem FR.lock {p : Addr} {u o : HO} (f : FR K fx ss σ H) (n : NewAt fx ss σ p) (h : H p = some u) (l : Loose u) : FR K fx ss σ (upd H p o) :=
  f.other (u := o) n.1 (fun u' e => by rw [h] at e; cases e; exact l) n.2
theorem get_set_eq {α : Type} {l : List α} {i j : Nat} {x y : α} (h : (l.set i x)[j]? = some y) : (j = i ∧ y = x) ∨ (j ≠ i ∧ l[j]? = some y) := by
  by_cases e : j = i
  · subst e
    rw [List.getElem?_set] at h
    simp only [if_true] at h
    split at h
    · exact .inl ⟨rfl, (Option.some.inj h).symm⟩
    · cases h
  · rw [List.getElem?_set_ne (Ne.symm e)] at h
    exact .inr ⟨e, h⟩
theorem FR.lt {i : Nat} (f : FR K fx ss σ H) (h : i < ss.length) : i < σ.length := by rw [f.len]; exact h
/-- x = data -/
theorem FR.imm {i : Nat} {v : V} {d : D} (f : FR K fx ss σ H) (hi : i < ss.length) (r : Rep K H v d) : FR K fx (ss.set i (.imm d)) (σ.set i (some v)) H := by
  have hσ := f.lt hi
  refine ⟨by rw [List.length_set, List.length_set]; exact f.len, f.kp, f.rest, f.there, fun j sl e => ?_, fun j k p sj sk oj ok ej ek eoj eok hj hk => ?_⟩
  · rcases get_set_eq e with ⟨rfl, rfl⟩ | ⟨ne, e⟩
    · exact ⟨v, by rw [List.getElem?_set_self hσ], r⟩
    · rw [List.getElem?_set_ne (Ne.symm ne)]
      exact f.slot j sl e
  · rcases get_set_eq ej with ⟨rfl, rfl⟩ | ⟨nj, ej⟩
    · cases eoj
    · rcases get_set_eq ek with ⟨rfl, rfl⟩ | ⟨nk, ek⟩
      · cases eok
      · rw [List.getElem?_set_ne (Ne.symm nj)] at hj
        rw [List.getElem?_set_ne (Ne.symm nk)] at hk
        exact f.dis j k p sj sk oj ok ej ek eoj eok hj hk
/-- what a slot holds is forgotten -/
theorem FR.un {i : Nat} {x : Option V} (f : FR K fx ss σ H) : FR K fx (ss.set i .un) (σ.set i x) H := by
  refine ⟨by rw [List.length_set, List.length_set]; exact f.len, f.kp, f.rest, f.there, fun j sl e => ?_, fun j k p sj sk oj ok ej ek eoj eok hj hk => ?_⟩
  · rcases get_set_eq e with ⟨rfl, rfl⟩ | ⟨ne, e⟩
    · trivial
    · rw [List.getElem?_set_ne (Ne.symm ne)]
      exact f.slot j sl e
  · rcases get_set_eq ej with ⟨rfl, rfl⟩ | ⟨nj, ej⟩
    · cases eoj
    · rcases get_set_eq ek with ⟨rfl, rfl⟩ | ⟨nk, ek⟩
      · cases eok
      · rw [List.getElem?_set_ne (Ne.symm nj)] at hj
        rw [List.getElem?_set_ne (Ne.symm nk)] at hk
        exact f.dis j k p sj sk oj ok ej ek eoj eok hj hk
/-- x = an object of one's own -/
theorem FR.own {i : Nat} {p : Addr} {o : O} (f : FR K fx ss σ H) (hi : i < ss.length) (r : OwnAt K H p o) (n : NewAt fx ss σ p) : FR K fx (ss.set i (.own o)) (σ.set i (some (.ref p))) H := by
  have hσ := f.lt hi
  refine ⟨by rw [List.length_set, List.length_set]; exact f.len, f.kp, f.rest, f.there, fun j sl e => ?_, fun j k q sj sk oj ok ej ek eoj eok hj hk => ?_⟩
  · rcases get_set_eq e with ⟨rfl, rfl⟩ | ⟨ne, e⟩
    · exact ⟨p, by rw [List.getElem?_set_self hσ], r, n.1⟩
    · rw [List.getElem?_set_ne (Ne.symm ne)]
      exact f.slot j sl e
  · by_cases nj : j = i
    · by_cases nk : k = i
      · rw [nj, nk]
      · rw [nj, List.getElem?_set_self hσ] at hj
        cases hj
        rw [List.getElem?_set_ne (Ne.symm nk)] at ek hk
        exact absurd hk (n.2 k sk ok ek eok)
    · by_cases nk : k = i
      · rw [nk, List.getElem?_set_self hσ] at hk
        cases hk
        rw [List.getElem?_set_ne (Ne.symm nj)] at ej hj
        exact absurd hj (n.2 j sj oj ej eoj)
      · rw [List.getElem?_set_ne (Ne.symm nj)] at ej hj
        rw [List.getElem?_set_ne (Ne.symm nk)] at ek hk
        exact f.dis j k q sj sk oj ok ej ek eoj eok hj hk
theorem put_obj {si : Sl} {oi o' : O} (h : si.obj = some oi) : (si.put o').obj = some o' := by
  cases si with
  | un => cases h
  | imm d => cases h
  | own u => rfl
  | bor u => rfl
/-- the object of a slot is changed -/
theorem FR.mut {i : Nat} {p : Addr} {si : Sl} {oi o' : O} {u : HO} (f : FR K fx ss σ H) (e : ss[i]? = some si) (eo : si.obj = some oi) (es : σ[i]? = some (some (.ref p))) (new : Kp H (upd H p u) → OwnAt K (upd H p u) p o') :
    FR K fx (ss.set i (si.put o')) σ (upd H p u) ∧ Kp H (upd H p u) := by
  obtain ⟨q, a, b, c⟩ := (f.slot i si e).obj eo
  rw [a] at es
  cases es
  obtain ⟨w, h1, h2, _⟩ := b.loose
  have k : Kp H (upd H p u) := .upd h1 h2
  have lt : i < ss.length := (List.getElem?_eq_some_iff.mp e).1
  refine ⟨⟨by rw [List.length_set]; exact f.len, f.kp.trans k, fun x o ex hP => ?_, fun x ex => ?_, fun j sl ej => ?_, fun j l q sj sk oj ok ej ek eoj eok hj hk => ?_⟩, k⟩
  · have ne : x ≠ p := by
      rcases c with c | c
      · exact ne_of_none ex c
      · exact fun z => hP i (by rw [c, z])
    rw [upd_ne ne]
    exact f.rest x o ex hP
  · by_cases xp : x = p
    · rw [xp, upd_same] at ex; cases ex
    · rw [upd_ne xp] at ex
      exact f.there x ex
  · rcases get_set_eq ej with ⟨rfl, rfl⟩ | ⟨ne, ej⟩
    · have q := f.slot j si e
      cases si with
      | un => cases eo
      | imm d => cases eo
      | own z => obtain ⟨r, a1, b1, c1⟩ := q; rw [a] at a1; cases a1; exact ⟨p, a, new k, c1⟩
      | bor z => obtain ⟨r, a1, b1, c1⟩ := q; rw [a] at a1; cases a1; exact ⟨p, a, new k, c1⟩
    · have q := f.slot j sl ej
      cases sl with
      | un => trivial
      | imm d => obtain ⟨v, a1, b1⟩ := q; exact ⟨v, a1, b1.kp k⟩
      | own z => 
        obtain ⟨r, a1, b1, c1⟩ := q
        have nr : r ≠ p := fun z' => ne (f.dis j i p _ si z oi ej e rfl eo (by rw [a1, z']) a)
        exact ⟨r, a1, b1.kp k (upd_ne nr), c1⟩
      | bor z => 
        obtain ⟨r, a1, b1, c1⟩ := q
        have nr : r ≠ p := fun z' => ne (f.dis j i p _ si z oi ej e rfl eo (by rw [a1, z']) a)
        exact ⟨r, a1, b1.kp k (upd_ne nr), c1⟩
  · have oj' : ∃ sj0 oj0, ss[j]? = some sj0 ∧ sj0.obj = some oj0 := by
      rcases get_set_eq ej with ⟨rfl, rfl⟩ | ⟨_, ej⟩
      · exact ⟨si, oi, e, eo⟩
      · exact ⟨sj, oj, ej, eoj⟩
    have ok' : ∃ sj0 oj0, ss[l]? = some sj0 ∧ sj0.obj = some oj0 := by
      rcases get_set_eq ek with ⟨rfl, rfl⟩ | ⟨_, ek⟩
      · exact ⟨si, oi, e, eo⟩
      · exact ⟨sk, ok, ek, eok⟩
    obtain ⟨s1, o1, a1, b1⟩ := oj'
    obtain ⟨s2, o2, a2, b2⟩ := ok'
    exact f.dis j l q s1 s2 o1 o2 a1 a2 b1 b2 hj hk
/-- an object of one's own is locked -/
theorem FR.freeze {i : Nat} {p : Addr} {o : O} {u w : HO} (f : FR K fx ss σ H) (e : ss[i]? = some (.own o)) (es : σ[i]? = some (some (.ref p))) (hw : H p = some w) (lw : Loose w) (new : Kp H (upd H p u) → Rep K (upd H p u) (.ref p) o.toD) :
    FR K fx (ss.set i (.imm o.toD)) σ (upd H p u) ∧ Kp H (upd H p u) := by
  have k : Kp H (upd H p u) := .upd hw lw
  obtain ⟨q, a, b, c⟩ := f.slot i _ e
  rw [a] at es
  cases es
  have lt : i < ss.length := (List.getElem?_eq_some_iff.mp e).1
  have f1 : FR K fx (ss.set i .un) (σ.set i (some (.ref p))) H := f.un
  have es : σ.set i (some (.ref p)) = σ := by
    apply List.ext_getElem?
    intro j
    by_cases hj : j = i
    · subst hj
      rw [List.getElem?_set_self (f.lt lt), a]
    · rw [List.getElem?_set_ne (Ne.symm hj)]
  rw [es] at f1
  have f2 : FR K fx (ss.set i .un) σ (upd H p u) := f1.other (u := u) c (fun u' e' => by rw [hw] at e'; cases e'; exact lw) fun j sj oj ej eoj hj => by
    rcases get_set_eq ej with ⟨rfl, rfl⟩ | ⟨ne, ej⟩
    · cases eoj
    · exact ne (f.dis j i p sj _ oj o ej e eoj rfl hj a)
  have f3 := f2.imm (i := i) (by rw [List.length_set]; exact lt) (new k)
  rw [List.set_set, es] at f3
  exact ⟨f3, k⟩
end

/-! ### readings by plain functions -/
inductive Res (α : Type) where
  | no
  | ok (a : α) (ss : SS)
def Res.bind {α β : Type} (r : Res α) (g : α → SS → Res β) : Res β := match r with
  | .no => .no
  | .ok a ss => g a ss
theorem bind_ok {α β : Type} {r : Res α} {g : α → SS → Res β} {b : β} {ss : SS} (h : r.bind g = .ok b ss) : ∃ a s1, r = .ok a s1 ∧ g a s1 = .ok b ss := by
  cases r with
  | no => cases h
  | ok a s1 => exact ⟨a, s1, rfl, h⟩
def Res.of {α : Type} (o : Option α) (ss : SS) : Res α := match o with
  | some a => .ok a ss
  | none => .no
theorem of_ok {α : Type} {o : Option α} {a : α} {ss s1 : SS} (h : Res.of o ss = .ok a s1) : o = some a ∧ s1 = ss := by
  cases o with
  | none => cases h
  | some b => cases h; exact ⟨rfl, rfl⟩
/-- the ends of a statement -/
inductive Out where
  | no
  | nx (ss : SS)
  | rt (r : Sl) (ss : SS)
  | bk (ss : SS)
  | ct (ss : SS)
abbrev FE := SS → Res D
abbrev FN := SS → Res O
abbrev FB := SS → Res Bool
abbrev FL := SS → Res (List D)
abbrev FS := SS → Out
/-- an argument: data, or what the slot i holds, lent -/
inductive Ar where
  | d (d : D)
  | ref (i : Nat)
abbrev FA := SS → Res (List Ar)

def tD (K : Fg) (f : FE) : TE := fun σ H Q => ∃ fx ss d ss', FR K fx ss σ H ∧ f ss = .ok d ss' ∧ ∀ v H', Kp H H' → FR K fx ss' σ H' → Rep K H' v d → Q v H'
def tN (K : Fg) (f : FN) : TE := fun σ H Q => ∃ fx ss o ss', FR K fx ss σ H ∧ f ss = .ok o ss' ∧ ∀ p H', Kp H H' → FR K fx ss' σ H' → OwnAt K H' p o → NewAt fx ss' σ p → Q (.ref p) H'
def tT (K : Fg) (f : FB) : TT := fun σ H Q => ∃ fx ss b ss', FR K fx ss σ H ∧ f ss = .ok b ss' ∧ ∀ H', Kp H H' → FR K fx ss' σ H' → Q b H'
def tL (K : Fg) (f : FL) : TA := fun σ H Q => ∃ fx ss ds ss', FR K fx ss σ H ∧ f ss = .ok ds ss' ∧ ∀ vs H', Kp H H' → FR K fx ss' σ H' → RepAll K H' vs ds → Q vs H'
inductive ArgR (K : Fg) (H : Hp) (σ : St) : V → Ar → Prop
  | d {v : V} {d : D} : Rep K H v d → ArgR K H σ v (.d d)
  | ref {v : V} {i : Nat} : σ[i]? = some (some v) → ArgR K H σ v (.ref i)
abbrev ArgsR (K : Fg) (H : Hp) (σ : St) : List V → List Ar → Prop := Paired (ArgR K H σ)
def tA (K : Fg) (f : FA) : TA := fun σ H Q => ∃ fx ss ds ss', FR K fx ss σ H ∧ f ss = .ok ds ss' ∧ ∀ vs H', Kp H H' → FR K fx ss' σ H' → ArgsR K H' σ vs ds → Q vs H'
/-- what is handed back -/
def RetR (K : Fg) (fx : Fx) (ss : SS) (σ : St) (H : Hp) (v : V) : Sl → Prop
  | .imm d => Rep K H v d
  | .own o => ∃ p, v = .ref p ∧ OwnAt K H p o ∧ NewAt fx ss σ p
  | _ => False
def tS (K : Fg) (f : FS) : TS := fun E σ H => ∃ fx ss, FR K fx ss σ H ∧ match f ss with
  | .no => False
  | .nx ss' => ∀ σ' H', Kp H H' → FR K fx ss' σ' H' → E.nx σ' H'
  | .rt r ss' => ∀ v σ' H', Kp H H' → FR K fx ss' σ' H' → RetR K fx ss' σ' H' v r → E.rt v H'
  | .bk ss' => ∀ σ' H', Kp H H' → FR K fx ss' σ' H' → E.bk σ' H'
  | .ct ss' => ∀ σ' H', Kp H H' → FR K fx ss' σ' H' → E.ct σ' H'

section
variable {X : Cx}
theorem _root_.L2.PE.imp {e : Expr} {t t' : TE} (h : PE X e t) (w : ∀ σ H Q, t' σ H Q → t σ H Q) : PE X e t' := ⟨fun pins s σ H Q I q => h.run pins s σ H Q I (w σ H Q q)⟩
theorem _root_.L2.PT.imp {e : Expr} {t t' : TT} (h : PT X e t) (w : ∀ σ H Q, t' σ H Q → t σ H Q) : PT X e t' := ⟨fun pins s σ H Q I q => h.run pins s σ H Q I (w σ H Q q)⟩
theorem _root_.L2.PW.imp {e : Expr} {t t' : TT} (h : PW X e t) (w : ∀ σ H Q, t' σ H Q → t σ H Q) : PW X e t' := ⟨fun whole pins s σ H Q I q => h.run whole pins s σ H Q I (w σ H Q q)⟩
theorem _root_.L2.PA.imp {es : List Expr} {t t' : TA} (h : PA X es t) (w : ∀ σ H Q, t' σ H Q → t σ H Q) : PA X es t' := ⟨fun pos pins s σ H Q I q => h.run pos pins s σ H Q I (w σ H Q q)⟩
theorem _root_.L2.PS.imp {st : Stmt} {t t' : TS} (h : PS X st t) (w : ∀ E σ H, t' E σ H → t E σ H) : PS X st t' := ⟨fun pins s σ H E I q => h.run pins s σ H E I (w E σ H q)⟩
theorem _root_.L2.PSs.imp {st : List Stmt} {t t' : TS} (h : PSs X st t) (w : ∀ E σ H, t' E σ H → t E σ H) : PSs X st t' := ⟨fun pins s σ H E I q => h.run pins s σ H E I (w E σ H q)⟩
/-- a new object is locked: from then on it is data -/
def eFz (f : FN) : FE := fun ss => (f ss).bind fun o s1 => .ok o.toD s1
theorem pe_fz {e : Expr} {f : FN} (h : PE X e (tN X.F f)) : PE X e (tD X.F (eFz f)) := by
  refine ⟨fun pins s σ H Q I q => ?_⟩
  obtain ⟨fx, ss, d, ss', hf, e1, k⟩ := q
  obtain ⟨o, s1, e2, e3⟩ := bind_ok e1
  cases e3
  refine thn (h.run pins s σ H (fun v H' => ∃ p, v = .ref p ∧ Kp H H' ∧ FR X.F fx ss' σ H' ∧ OwnAt X.F H' p o ∧ NewAt fx ss' σ p) I ⟨fx, ss, o, ss', hf, e2, fun p H' a b c d => ⟨p, rfl, a, b, c, d⟩⟩) fun u s2 q => ?_
  obtain ⟨v, H', I2, r, p, rfl, kp, f2, ow, nw⟩ := q
  obtain ⟨w, hw, lw, mw, rp⟩ := ow.loose
  obtain ⟨od, I3⟩ := I2.lock hw mw
  exact ⟨.ref p, _, I3, r, k _ _ (kp.trans (Kp.upd hw lw)) (f2.lock nw hw lw) (rp od)⟩
end
end Dt

/-! Dt1: rules for expressions and tests. -/
namespace Dt
open PySem PySem.Spec L2
open PyProof.Rows hiding St
section
variable {K : Fg} {fx : Fx} {ss : SS} {σ : St} {H H' : Hp}
theorem OwnAt.same {p : Addr} {o : O} (h : Same H H') (w : OwnAt K H p o) : OwnAt K H' p o := by
  obtain ⟨u, e, _⟩ := w.loose
  exact w.kp (Kp.same h) ((h _ _ e).trans e.symm)
theorem FR.same (f : FR K fx ss σ H) (h : Same H H') : FR K fx ss σ H' := by
  refine ⟨f.len, f.kp.trans (Kp.same h), fun a o e hP => h _ _ (f.rest a o e hP), fun a e => f.there a (h.free e), fun i sl e => ?_, f.dis⟩
  have q := f.slot i sl e
  cases sl with
  | un => trivial
  | imm d => obtain ⟨v, a, b⟩ := q; exact ⟨v, a, b.kp (Kp.same h)⟩
  | own x => obtain ⟨r, a, b, c⟩ := q; exact ⟨r, a, b.same h, c⟩
  | bor x => obtain ⟨r, a, b, c⟩ := q; exact ⟨r, a, b.same h, c⟩
theorem same_upd {p : Addr} {o : HO} (h : H p = none) : Same H (upd H p o) := same_new h
theorem same_lock {p : Addr} {o : HO} (s : Same H H') (h : H p = none) : Same H (upd H' p o) := fun a x e => by
  rw [upd_ne (ne_of_none e h)]
  exact s a x e
end

/-! ### operators by data -/
def rD (K : Fg) (g : D → D → Option D) : R2 := fun x y H Q => ∃ d e z, Rep K H x d ∧ Rep K H y e ∧ g d e = some z ∧ ∀ v H', Same H H' → Rep K H' v z → Q v H'
def rDN (K : Fg) (g : D → D → Option O) : R2 := fun x y H Q => ∃ d e z, Rep K H x d ∧ Rep K H y e ∧ g d e = some z ∧ ∀ p H', H p = none → Same H H' → OwnAt K H' p z → Q (.ref p) H'
def uD (K : Fg) (g : D → Option D) : V → Hp → VK → Prop := fun x H Q => ∃ d z, Rep K H x d ∧ g d = some z ∧ ∀ v H', Same H H' → Rep K H' v z → Q v H'
def cD (K : Fg) (g : List D → Option D) : List V → Hp → VK → Prop := fun vs H Q => ∃ ds z, RepAll K H vs ds ∧ g ds = some z ∧ ∀ v H', Same H H' → Rep K H' v z → Q v H'
def cDN (K : Fg) (g : List D → Option O) : List V → Hp → VK → Prop := fun vs H Q => ∃ ds z, RepAll K H vs ds ∧ g ds = some z ∧ ∀ p H', H p = none → Same H H' → OwnAt K H' p z → Q (.ref p) H'
def mD (K : Fg) (g : D → List D → Option D) : V → List V → Hp → VK → Prop := fun x vs H Q => ∃ d ds z, Rep K H x d ∧ RepAll K H vs ds ∧ g d ds = some z ∧ ∀ v H', Same H H' → Rep K H' v z → Q v H'
def mDN (K : Fg) (g : D → List D → Option O) : V → List V → Hp → VK → Prop := fun x vs H Q => ∃ d ds z, Rep K H x d ∧ RepAll K H vs ds ∧ g d ds = some z ∧ ∀ p H', H p = none → Same H H' → OwnAt K H' p z → Q (.ref p) H'
section
variable {X : Cx}
/-- locking at the end of a step -/
theorem ep_fz {pins : List (Addr × Obj)} {σ : St} {H : Hp} {Q : VK} {u : Value} {s' : Shared} {z : O} (h : EP X pins σ (fun v H' => ∃ p, v = .ref p ∧ H p = none ∧ Same H H' ∧ OwnAt X.F H' p z) u s')
    (k : ∀ v H', Same H H' → Rep X.F H' v z.toD → Q v H') : EP X pins σ Q u s' := by
  obtain ⟨v, H', I, r, p, rfl, hp, sm, ow⟩ := h
  obtain ⟨w, hw, lw, mw, rp⟩ := ow.loose
  obtain ⟨od, I3⟩ := I.lock hw mw
  exact ⟨.ref p, _, I3, r, k _ _ (same_lock sm hp) (rp od)⟩
theorem _root_.L2.OpR.imp {f : Value → Value → Sem Value} {r r' : R2} (h : OpR X f r) (w : ∀ x y H Q, r' x y H Q → r x y H Q) : OpR X f r' := fun pins s σ H x y v u Q I rx ry q => h pins s σ H x y v u Q I rx ry (w x y H Q q)
theorem opFz {f : Value → Value → Sem Value} {g : D → D → Option O} (h : OpR X f (rDN X.F g)) : OpR X f (rD X.F fun d e => (g d e).map O.toD) := by
  intro pins s σ H x y v u Q I rx ry q
  obtain ⟨d, e, z, hd, he, hz, k⟩ := q
  obtain ⟨o, hg, rfl⟩ := Option.map_eq_some_iff.mp hz
  exact thn (h pins s σ H x y v u (fun v H' => ∃ p, v = .ref p ∧ H p = none ∧ Same H H' ∧ OwnAt X.F H' p o) I rx ry ⟨d, e, o, hd, he, hg, fun p H' a b c => ⟨p, rfl, a, b, c⟩⟩) fun _ _ q => ep_fz q k
theorem _root_.L2.CallR.imp {f : Value} {r r' : List V → Hp → VK → Prop} (h : CallR X f r) (w : ∀ xs H Q, r' xs H Q → r xs H Q) : CallR X f r' := fun pins s σ H xs us Q I rx q => h pins s σ H xs us Q I rx (w xs H Q q)
theorem callFz {f : Value} {g : List D → Option O} (h : CallR X f (cDN X.F g)) : CallR X f (cD X.F fun ds => (g ds).map O.toD) := by
  intro pins s σ H xs us Q I rx q
  obtain ⟨ds, z, hd, hz, k⟩ := q
  obtain ⟨o, hg, rfl⟩ := Option.map_eq_some_iff.mp hz
  exact thn (h pins s σ H xs us (fun v H' => ∃ p, v = .ref p ∧ H p = none ∧ Same H H' ∧ OwnAt X.F H' p o) I rx ⟨ds, o, hd, hg, fun p H' a b c => ⟨p, rfl, a, b, c⟩⟩) fun _ _ q => ep_fz q k
theorem _root_.L2.MtR.imp {id : String} {r r' : V → List V → Hp → VK → Prop} (h : MtR X id r) (w : ∀ x xs H Q, r' x xs H Q → r x xs H Q) : MtR X id r' := fun pins s σ H x xs v us Q I rx rs q => h pins s σ H x xs v us Q I rx rs (w x xs H Q q)
theorem mtFz {id : String} {g : D → List D → Option O} (h : MtR X id (mDN X.F g)) : MtR X id (mD X.F fun d ds => (g d ds).map O.toD) := by
  intro pins s σ H x xs v us Q I rx rs q
  obtain ⟨d, ds, z, hx, hd, hz, k⟩ := q
  obtain ⟨o, hg, rfl⟩ := Option.map_eq_some_iff.mp hz
  exact thn (h pins s σ H x xs v us (fun v H' => ∃ p, v = .ref p ∧ H p = none ∧ Same H H' ∧ OwnAt X.F H' p o) I rx rs ⟨d, ds, o, hx, hd, hg, fun p H' a b c => ⟨p, rfl, a, b, c⟩⟩) fun _ _ q => ep_fz q k
theorem _root_.L2.IxR.imp {r r' : R2} (h : IxR X r) (w : ∀ x y H Q, r' x y H Q → r x y H Q) : IxR X r' := fun a b pins s σ H x y v u Q I rx ry q e => h a b pins s σ H x y v u Q I rx ry (w x y H Q q) e

/-! ### expressions -/
def eV (i : Nat) : FE := fun ss => match ss[i]? with
  | some (.imm d) => .ok d ss
  | _ => .no
def eC (d : D) : FE := fun ss => .ok d ss
def eOp (g : D → D → Option D) (a b : FE) : FE := fun ss => (a ss).bind fun x s1 => (b s1).bind fun y s2 => .of (g x y) s2
def eUn (g : D → Option D) (a : FE) : FE := fun ss => (a ss).bind fun x s1 => .of (g x) s1
def eCB (g : List D → Option D) (a : FL) : FE := fun ss => (a ss).bind fun x s1 => .of (g x) s1
def eM (g : D → List D → Option D) (a : FE) (b : FL) : FE := fun ss => (a ss).bind fun x s1 => (b s1).bind fun y s2 => .of (g x y) s2
def lNil : FL := fun ss => .ok [] ss
def lCons (a : FE) (b : FL) : FL := fun ss => (a ss).bind fun x s1 => (b s1).bind fun y s2 => .ok (x :: y) s2
theorem xv (i : Nat) {x : Str} {pos : Pos} (hN : X.N[i]? = some x := by rfl) (hv : Vis X.env.scope x := by first | exact Or.inl rfl | exact Or.inr (Or.inl rfl) | exact Or.inr (Or.inr rfl)) (hd : (x == ("__debug__" : Str)) = false := by decide)
    (hcd : (x == ("__classdict__" : Str)) = false := by decide) : PE X (.Name x pos) (tD X.F (eV i)) := by
  refine (pe_var hN hv hd hcd).imp fun σ H Q q => ?_
  obtain ⟨fx, ss, d, ss', f, e, k⟩ := q
  unfold eV at e
  split at e
  · rename_i d' e1
    cases e
    obtain ⟨v, h1, h2⟩ := f.slot i _ e1
    exact ⟨v, h1, k v H (Kp.refl H) f h2⟩
  · cases e
theorem pe_tC {e : Expr} {v : V} {d : D} (h : PE X e (tC v)) (r : ∀ H, Rep X.F H v d) : PE X e (tD X.F (eC d)) := by
  refine h.imp fun σ H Q q => ?_
  obtain ⟨fx, ss, d, ss', f, e, k⟩ := q
  cases e
  exact k v H (Kp.refl H) f (r H)
theorem xi {i j pos} : PE X (.Constant (.int i) j pos) (tD X.F (eC (.int i))) := pe_tC pe_int fun _ => .int _
theorem xb {b j pos} : PE X (.Constant (.bool b) j pos) (tD X.F (eC (.bool b))) := pe_tC pe_bl fun _ => .bl _
theorem xn {j pos} : PE X (.Constant .none j pos) (tD X.F (eC .none)) := pe_tC pe_non fun _ => .non
theorem xs {x j pos} : PE X (.Constant (.str x) j pos) (tD X.F (eC (.str x))) := pe_tC pe_str fun _ => .str _
/-- a constant of the module -/
def GlD (K : Fg) (mg : Str → Option Value) (x : Str) (d : D) : Prop := ∃ v u, mg x = some u ∧ RelV v u ∧ ∀ H, Rep K H v d
theorem xg {x : Str} {d : D} {pos : Pos} (m : GlD X.F X.mg x d) (hg : Gl X x := by rfl) (hd : (x == ("__debug__" : Str)) = false := by decide) : PE X (.Name x pos) (tD X.F (eC d)) := by
  obtain ⟨v, u, hm, r, rp⟩ := m
  exact pe_tC (pe_glob hg hm r hd) rp
variable {a b : Expr} {es : List Expr} {pos : Pos} {fa fb : FE} {fl : FL}
/-- two in a row -/
theorem two {σ : St} {H : Hp} {R : V → V → Hp → Prop} {Q : VK} {g : D → D → SS → Res D} (q : tD X.F (fun ss => (fa ss).bind fun x s1 => (fb s1).bind fun y s2 => g x y s2) σ H Q)
    (h : ∀ v u H2 fx s2 x y d s3, Kp H H2 → FR X.F fx s2 σ H2 → Rep X.F H2 v x → Rep X.F H2 u y → g x y s2 = .ok d s3 → (∀ w H', Kp H H' → FR X.F fx s3 σ H' → Rep X.F H' w d → Q w H') → R v u H2) :
    tD X.F fa σ H fun v H1 => tD X.F fb σ H1 fun u H2 => R v u H2 := by
  obtain ⟨fx, ss, d, s3, f, e, k⟩ := q
  obtain ⟨x, s1, e1, e⟩ := bind_ok e
  obtain ⟨y, s2, e2, e⟩ := bind_ok e
  refine ⟨fx, ss, x, s1, f, e1, fun v H1 k1 f1 r1 => ⟨fx, s1, y, s2, f1, e2, fun u H2 k2 f2 r2 => ?_⟩⟩
  exact h v u H2 fx s2 x y d s3 (k1.trans k2) f2 (r1.kp k2) r2 e k
theorem xop {op : Operator} {g : D → D → Option D} (ho : OpR X (binaryOp op) (rD X.F g)) (ha : PE X a (tD X.F fa)) (hb : PE X b (tD X.F fb)) : PE X (.BinOp a op b pos) (tD X.F (eOp g fa fb)) := by
  refine (pe_op ho ha hb).imp fun σ H Q q => two (R := fun v u H2 => rD X.F g v u H2 Q) q fun v u H2 fx s2 x y d s3 k f r1 r2 e q => ?_
  obtain ⟨eg, rfl⟩ := of_ok e
  exact ⟨x, y, d, r1, r2, eg, fun w H' sm rw => q w H' (k.trans (.same sm)) (f.same sm) rw⟩
theorem xcmp {op : CmpOp} {g : D → D → Option D} (ho : OpR X (compareOp op) (rD X.F g)) (ha : PE X a (tD X.F fa)) (hb : PE X b (tD X.F fb)) (hm : behindInMarks op b = false := by first | exact nomark _ | rfl) : PE X (.Compare a [op] [b] pos) (tD X.F (eOp g fa fb)) := by
  refine (pe_cmpR ho ha hb hm).imp fun σ H Q q => two (R := fun v u H2 => rD X.F g v u H2 Q) q fun v u H2 fx s2 x y d s3 k f r1 r2 e q => ?_
  obtain ⟨eg, rfl⟩ := of_ok e
  exact ⟨x, y, d, r1, r2, eg, fun w H' sm rw => q w H' (k.trans (.same sm)) (f.same sm) rw⟩
theorem xix {g : D → D → Option D} (hr : IxR X (rD X.F g)) (ha : PE X a (tD X.F fa)) (hb : PE X b (tD X.F fb)) (hs : PlainIx b := by exact fun _ _ => rfl) : PE X (.Subscript a b pos) (tD X.F (eOp g fa fb)) := by
  refine (pe_ix hr ha hb hs).imp fun σ H Q q => two (R := fun v u H2 => rD X.F g v u H2 Q) q fun v u H2 fx s2 x y d s3 k f r1 r2 e q => ?_
  obtain ⟨eg, rfl⟩ := of_ok e
  exact ⟨x, y, d, r1, r2, eg, fun w H' sm rw => q w H' (k.trans (.same sm)) (f.same sm) rw⟩
theorem xun {op : UnaryOp} {g : D → Option D} (ho : UnR X (unaryOp op) (uD X.F g)) (ha : PE X a (tD X.F fa)) : PE X (.UnaryOp op a pos) (tD X.F (eUn g fa)) := by
  refine (pe_un ho ha).imp fun σ H Q q => ?_
  obtain ⟨fx, ss, d, s3, f, e, k⟩ := q
  obtain ⟨x, s1, e1, e⟩ := bind_ok e
  obtain ⟨eg, rfl⟩ := of_ok e
  exact ⟨fx, ss, x, _, f, e1, fun v H1 k1 f1 r1 => ⟨x, d, r1, eg, fun w H' sm rw => k w H' (k1.trans (.same sm)) (f1.same sm) rw⟩⟩
/-! argument lists -/
theorem an : PA X [] (tL X.F lNil) := by
  refine pa_nil.imp fun σ H Q q => ?_
  obtain ⟨fx, ss, d, s3, f, e, k⟩ := q
  cases e
  exact k [] H (Kp.refl H) f .nil
theorem ac (ha : PE X a (tD X.F fa)) (hr : PA X es (tL X.F fl)) (hs : starEach (a :: es) X.env = (false, eval a X.env) :: starEach es X.env := by rfl) : PA X (a :: es) (tL X.F (lCons fa fl)) := by
  refine (pa_cons ha hr hs).imp fun σ H Q q => ?_
  obtain ⟨fx, ss, d, s3, f, e, k⟩ := q
  obtain ⟨x, s1, e1, e⟩ := bind_ok e
  obtain ⟨y, s2, e2, e⟩ := bind_ok e
  cases e
  exact ⟨fx, ss, x, s1, f, e1, fun v H1 k1 f1 r1 => ⟨fx, s1, y, _, f1, e2, fun vs H2 k2 f2 r2 => k _ H2 (k1.trans k2) f2 (.cons (r1.kp k2) r2)⟩⟩
/-! displays -/
def eTup (a : FL) : FE := fun ss => (a ss).bind fun x s1 => if x.length ≤ sizeLine then .ok (.tuple x) s1 else .no
def nLst (a : FL) : FN := fun ss => (a ss).bind fun x s1 => if x.length ≤ sizeLine then .ok (.lst x) s1 else .no
theorem xt {n} (h : PA X es (tL X.F fl)) : PE X (.Tuple es n pos) (tD X.F (eTup fl)) := by
  refine (pe_tup h).imp fun σ H Q q => ?_
  obtain ⟨fx, ss, d, s3, f, e, k⟩ := q
  obtain ⟨x, s1, e1, e⟩ := bind_ok e
  split at e
  · rename_i hl
    cases e
    refine ⟨fx, ss, x, _, f, e1, fun vs H1 k1 f1 r1 => ⟨by rw [r1.len]; exact hl, fun p hp => k _ _ (k1.trans (.same (same_new hp))) (f1.new hp) (.tup (.of upd_same) (r1.kp (.same (same_new hp))))⟩⟩
  · cases e
theorem xl {pos : Pos} (h : PA X es (tL X.F fl)) : PE X (.List es pos) (tN X.F (nLst fl)) := by
  refine (pe_lst h).imp fun σ H Q q => ?_
  obtain ⟨fx, ss, d, s3, f, e, k⟩ := q
  obtain ⟨x, s1, e1, e⟩ := bind_ok e
  split at e
  · rename_i hl
    cases e
    refine ⟨fx, ss, x, _, f, e1, fun vs H1 k1 f1 r1 => ⟨by rw [r1.len]; exact hl, fun p hp => k _ _ (k1.trans (.same (same_new hp))) (f1.new hp) ⟨vs, upd_same, r1.kp (.same (same_new hp))⟩ (f1.newAt hp)⟩⟩
  · cases e
/-! calls of built-ins -/
theorem xcb {id : String} {x : Str} {p : Pos} {g : List D → Option D} (hc : CallR X (.builtin id) (cD X.F g)) (hm : X.mg x = none) (hv : bootBuiltins x = some (.builtin id)) (ha : PA X (a :: es) (tL X.F fl)) (hg : Gl X x := by rfl) (hn : x ≠ "__name__" := by decide) (hdb : (x == ("__debug__" : Str)) = false := by decide)
    (he : starEach (a :: es) X.env = (false, eval a X.env) :: starEach es X.env := by rfl) (hpl : (backTo pos (starEach es X.env)).any (·.1) = false := by rfl) : PE X (.Call (.Name x p) (a :: es) [] pos) (tD X.F (eCB g fl)) := by
  refine (pe_callB hc hg hm hv ha hn hdb he hpl).imp fun σ H Q q => ?_
  obtain ⟨fx, ss, d, s3, f, e, k⟩ := q
  obtain ⟨x, s1, e1, e⟩ := bind_ok e
  obtain ⟨eg, rfl⟩ := of_ok e
  exact ⟨fx, ss, x, _, f, e1, fun v H1 k1 f1 r1 => ⟨x, d, r1, eg, fun w H' sm rw => k w H' (k1.trans (.same sm)) (f1.same sm) rw⟩⟩
theorem xct {id : String} {x : Str} {p : Pos} {g : List D → Option D} (hc : CallR X (.type id) (cD X.F g)) (hm : X.mg x = none) (hv : bootBuiltins x = some (.type id)) (ha : PA X (a :: es) (tL X.F fl)) (hg : Gl X x := by rfl) (hn : x ≠ "__name__" := by decide) (hdb : (x == ("__debug__" : Str)) = false := by decide)
    (he : starEach (a :: es) X.env = (false, eval a X.env) :: starEach es X.env := by rfl) (hpl : (backTo pos (starEach es X.env)).any (·.1) = false := by rfl) : PE X (.Call (.Name x p) (a :: es) [] pos) (tD X.F (eCB g fl)) := by
  refine (pe_callTy hc hg hm hv ha hn hdb he hpl).imp fun σ H Q q => ?_
  obtain ⟨fx, ss, d, s3, f, e, k⟩ := q
  obtain ⟨x, s1, e1, e⟩ := bind_ok e
  obtain ⟨eg, rfl⟩ := of_ok e
  exact ⟨fx, ss, x, _, f, e1, fun v H1 k1 f1 r1 => ⟨x, d, r1, eg, fun w H' sm rw => k w H' (k1.trans (.same sm)) (f1.same sm) rw⟩⟩
/-! truth: bools alone -/
def asB : D → Option Bool
  | .bool b => some b
  | _ => none
def bOf (a : FE) : FB := fun ss => (a ss).bind fun x s1 => .of (asB x) s1
theorem asB_some {d : D} {b : Bool} (h : asB d = some b) : d = .bool b := by
  cases d <;> first | (cases h; rfl) | cases h
theorem Rep.bool {K : Fg} {H : Hp} {v : V} {b : Bool} (h : Rep K H v (.bool b)) : v = .bl b := by cases h; rfl
theorem tbx {ta : FE} {σ : St} {H : Hp} {Q : Bool → Hp → Prop} (q : tT X.F (bOf ta) σ H Q) : tB (tD X.F ta) σ H Q := by
  obtain ⟨fx, ss, d, s3, f, e, k⟩ := q
  obtain ⟨x, s1, e1, e⟩ := bind_ok e
  obtain ⟨e, e0⟩ := of_ok e
  have ex := asB_some e
  rw [ex, ← e0] at e1
  exact ⟨fx, ss, _, _, f, e1, fun v H1 k1 f1 r1 => ⟨d, r1.bool, k H1 k1 f1⟩⟩
/-- an expression as a test -/
theorem tv (h : PE X a (tD X.F fa)) (he : ∀ whole, isTrue a X.env whole = (do let v ← whole; standAt a.pos; holding [v] (truthy v)) := by intro _; rfl) : PT X a (tT X.F (bOf fa)) :=
  (pt_val h he).imp fun _ _ _ q => tbx q
def bAnd (a b : FB) : FB := fun ss => (a ss).bind fun x s1 => if x = true then b s1 else .ok false s1
def bOr (a b : FB) : FB := fun ss => (a ss).bind fun x s1 => if x = true then .ok true s1 else b s1
def bNot (a : FB) : FB := fun ss => (a ss).bind fun x s1 => .ok (!x) s1
variable {ba bb : FB} {rest : List Expr}
theorem tand1 (ha : PT X a (tT X.F ba)) : PW X (.BoolOp .And [a] pos) (tT X.F ba) := pw_and1 ha
theorem tor1 (ha : PT X a (tT X.F ba)) : PW X (.BoolOp .Or [a] pos) (tT X.F ba) := pw_or1 ha
theorem tand (ha : PT X a (tT X.F ba)) (hb : PW X (.BoolOp .And (b :: rest) pos) (tT X.F bb)) : PW X (.BoolOp .And (a :: b :: rest) pos) (tT X.F (bAnd ba bb)) := by
  refine (pw_and ha hb).imp fun σ H Q q => ?_
  obtain ⟨fx, ss, d, s3, f, e, k⟩ := q
  obtain ⟨x, s1, e1, e⟩ := bind_ok e
  refine ⟨fx, ss, x, s1, f, e1, fun H1 k1 f1 => ?_⟩
  split at e
  · rename_i hx
    subst hx
    exact iteT ⟨fx, s1, d, s3, f1, e, fun H2 k2 f2 => k H2 (k1.trans k2) f2⟩
  · rename_i hx
    cases e
    rw [if_neg hx]
    exact k H1 k1 f1
theorem tor (ha : PT X a (tT X.F ba)) (hb : PW X (.BoolOp .Or (b :: rest) pos) (tT X.F bb)) : PW X (.BoolOp .Or (a :: b :: rest) pos) (tT X.F (bOr ba bb)) := by
  refine (pw_or ha hb).imp fun σ H Q q => ?_
  obtain ⟨fx, ss, d, s3, f, e, k⟩ := q
  obtain ⟨x, s1, e1, e⟩ := bind_ok e
  refine ⟨fx, ss, x, s1, f, e1, fun H1 k1 f1 => ?_⟩
  split at e
  · rename_i hx
    cases e
    rw [if_pos hx]
    exact k H1 k1 f1
  · rename_i hx
    rw [if_neg hx]
    exact ⟨fx, s1, d, s3, f1, e, fun H2 k2 f2 => k H2 (k1.trans k2) f2⟩
theorem tnot (ha : PT X a (tT X.F ba)) : PT X (.UnaryOp .Not a pos) (tT X.F (bNot ba)) := by
  refine (pt_not ha).imp fun σ H Q q => ?_
  obtain ⟨fx, ss, d, s3, f, e, k⟩ := q
  obtain ⟨x, s1, e1, e⟩ := bind_ok e
  cases e
  exact ⟨fx, ss, x, s3, f, e1, fun H1 k1 f1 => k H1 k1 f1⟩
/-- and, or, not as values, of bools -/
def eAnd (a b : FE) : FE := fun ss => (a ss).bind fun x s1 => match x with
  | .bool true => b s1
  | .bool false => .ok (.bool false) s1
  | _ => .no
def eOr (a b : FE) : FE := fun ss => (a ss).bind fun x s1 => match x with
  | .bool true => .ok (.bool true) s1
  | .bool false => b s1
  | _ => .no
def eNot (a : FE) : FE := fun ss => (a ss).bind fun x s1 => match x with
  | .bool x => .ok (.bool (!x)) s1
  | _ => .no
theorem xone {op} (h : PE X a (tD X.F fa)) : PE X (.BoolOp op [a] pos) (tD X.F fa) := pe_one h
theorem xand (ha : PE X a (tD X.F fa)) (hb : PE X (.BoolOp .And (b :: rest) pos) (tD X.F fb)) : PE X (.BoolOp .And (a :: b :: rest) pos) (tD X.F (eAnd fa fb)) := by
  refine (pe_and ha hb).imp fun σ H Q q => ?_
  obtain ⟨fx, ss, d, s3, f, e, k⟩ := q
  obtain ⟨x, s1, e1, e⟩ := bind_ok e
  refine ⟨fx, ss, x, s1, f, e1, fun v H1 k1 f1 r1 => ?_⟩
  split at e
  · exact ⟨true, r1.bool, iteT ⟨fx, s1, d, s3, f1, e, fun v H2 k2 f2 => k v H2 (k1.trans k2) f2⟩⟩
  · cases e
    exact ⟨false, r1.bool, iteF (k _ H1 k1 f1 (.bl _))⟩
  · cases e
theorem xor (ha : PE X a (tD X.F fa)) (hb : PE X (.BoolOp .Or (b :: rest) pos) (tD X.F fb)) : PE X (.BoolOp .Or (a :: b :: rest) pos) (tD X.F (eOr fa fb)) := by
  refine (pe_or ha hb).imp fun σ H Q q => ?_
  obtain ⟨fx, ss, d, s3, f, e, k⟩ := q
  obtain ⟨x, s1, e1, e⟩ := bind_ok e
  refine ⟨fx, ss, x, s1, f, e1, fun v H1 k1 f1 r1 => ?_⟩
  split at e
  · cases e
    exact ⟨true, r1.bool, iteT (k _ H1 k1 f1 (.bl _))⟩
  · exact ⟨false, r1.bool, iteF ⟨fx, s1, d, s3, f1, e, fun v H2 k2 f2 => k v H2 (k1.trans k2) f2⟩⟩
  · cases e
theorem xnot (ha : PE X a (tD X.F fa)) : PE X (.UnaryOp .Not a pos) (tD X.F (eNot fa)) := by
  refine (pe_not ha).imp fun σ H Q q => ?_
  obtain ⟨fx, ss, d, s3, f, e, k⟩ := q
  obtain ⟨x, s1, e1, e⟩ := bind_ok e
  split at e
  · cases e
    exact ⟨fx, ss, _, _, f, e1, fun v H1 k1 f1 r1 => ⟨_, r1.bool, k _ H1 k1 f1 (.bl _)⟩⟩
  · cases e
def eIf (c : FB) (a b : FE) : FE := fun ss => (c ss).bind fun x s1 => if x = true then a s1 else b s1
theorem xif {c : Expr} (hc : PT X c (tT X.F ba)) (ha : PE X a (tD X.F fa)) (hb : PE X b (tD X.F fb)) : PE X (.IfExp c a b pos) (tD X.F (eIf ba fa fb)) := by
  refine (pe_ifExp hc ha hb).imp fun σ H Q q => ?_
  obtain ⟨fx, ss, d, s3, f, e, k⟩ := q
  obtain ⟨x, s1, e1, e⟩ := bind_ok e
  refine ⟨fx, ss, x, s1, f, e1, fun H1 k1 f1 => ?_⟩
  split at e
  · rename_i hx
    rw [if_pos hx]
    exact ⟨fx, s1, d, s3, f1, e, fun v H2 k2 f2 => k v H2 (k1.trans k2) f2⟩
  · rename_i hx
    rw [if_neg hx]
    exact ⟨fx, s1, d, s3, f1, e, fun v H2 k2 f2 => k v H2 (k1.trans k2) f2⟩
/-- a op b op c -/
def eCh (g h : D → D → Option D) (a b c : FE) : FE := fun ss => (a ss).bind fun x s1 => (b s1).bind fun y s2 => (Res.of (g x y) s2).bind fun z s3 => match z with
  | .bool true => (c s3).bind fun w s4 => .of (h y w) s4
  | .bool false => .ok (.bool false) s3
  | _ => .no
theorem xch {c : Expr} {fc : FE} {op op' : CmpOp} {g g' : D → D → Option D} (ho : OpR X (compareOp op) (rD X.F g)) (ho' : OpR X (compareOp op') (rD X.F g')) (ha : PE X a (tD X.F fa)) (hb : PE X b (tD X.F fb)) (hc : PE X c (tD X.F fc)) (hm : lastMarks [op, op'] [b, c] = false := by with_unfolding_all rfl) :
    PE X (.Compare a [op, op'] [b, c] pos) (tD X.F (eCh g g' fa fb fc)) := by
  refine (pe_chain ho ho' ha hb hc hm).imp fun σ H Q q => ?_
  obtain ⟨fx, ss, d, s5, f, e, k⟩ := q
  obtain ⟨x, s1, e1, e⟩ := bind_ok e
  obtain ⟨y, s2, e2, e⟩ := bind_ok e
  obtain ⟨z, s3, e3, e7⟩ := bind_ok e
  obtain ⟨e4, rfl⟩ := of_ok e3
  clear e
  refine ⟨fx, ss, x, s1, f, e1, fun v H1 k1 f1 r1 => ⟨fx, s1, y, _, f1, e2, fun u H2 k2 f2 r2 => ⟨x, y, z, r1.kp k2, r2, e4, fun w H3 sm rw => ?_⟩⟩⟩
  have f3 := f2.same sm
  have k3 := (k1.trans k2).trans (.same sm)
  split at e7
  · obtain ⟨w2, s4, e5, e⟩ := bind_ok e7
    obtain ⟨eg, rfl⟩ := of_ok e
    exact ⟨true, rw.bool, iteT ⟨fx, _, w2, _, f3, e5, fun t H4 k4 f4 r4 => ⟨y, w2, d, (r2.kp (.same sm)).kp k4, r4, eg, fun t2 H5 sm5 r5 => k t2 H5 ((k3.trans k4).trans (.same sm5)) (f4.same sm5) r5⟩⟩⟩
  · cases e7
    exact ⟨false, rw.bool, iteF (k _ H3 k3 f3 (.bl _))⟩
  · cases e7

/-! comparisons as tests -/
theorem tread {e : Expr} {t : TE} {f : FE} (h : PT X e (tTest t)) (w : ∀ σ H Q, tD X.F f σ H Q → t σ H Q) : PT X e (tT X.F (bOf f)) :=
  h.imp fun σ H Q q => w σ H _ (by
    obtain ⟨fx, ss, d, s3, f, e, k⟩ := q
    obtain ⟨x, s1, e1, e⟩ := bind_ok e
    obtain ⟨e, e0⟩ := of_ok e
    have ex := asB_some e
    rw [ex, ← e0] at e1
    exact ⟨fx, ss, _, _, f, e1, fun v H1 k1 f1 r1 => ⟨d, r1.bool, k H1 k1 f1⟩⟩)
theorem cmp_read {g : D → D → Option D} {σ : St} {H : Hp} {Q : VK} (q : tD X.F (eOp g fa fb) σ H Q) : tOp (rD X.F g) (tD X.F fa) (tD X.F fb) σ H Q :=
  two (R := fun v u H2 => rD X.F g v u H2 Q) q fun v u H2 fx s2 x y d s3 k f r1 r2 e q => by
    obtain ⟨eg, rfl⟩ := of_ok e
    exact ⟨x, y, d, r1, r2, eg, fun w H' sm rw => q w H' (k.trans (.same sm)) (f.same sm) rw⟩
theorem tcmp {op : CmpOp} {g : D → D → Option D} (ho : OpR X (compareOp op) (rD X.F g)) (ha : PE X a (tD X.F fa)) (hb : PE X b (tD X.F fb)) (hm : behindInMarks op b = false := by first | exact nomark _ | rfl) : PT X (.Compare a [op] [b] pos) (tT X.F (bOf (eOp g fa fb))) :=
  tread (pt_cmpR ho ha hb hm) fun _ _ _ q => cmp_read q
theorem ch_read {c : Expr} {fc : FE} {g g' : D → D → Option D} {σ : St} {H : Hp} {Q : VK} (q : tD X.F (eCh g g' fa fb fc) σ H Q) : tChain (rD X.F g) (rD X.F g') (tD X.F fa) (tD X.F fb) (tD X.F fc) σ H Q := by
  obtain ⟨fx, ss, d, s5, f, e, k⟩ := q
  obtain ⟨x, s1, e1, e⟩ := bind_ok e
  obtain ⟨y, s2, e2, e⟩ := bind_ok e
  obtain ⟨z, s3, e3, e7⟩ := bind_ok e
  obtain ⟨e4, rfl⟩ := of_ok e3
  clear e
  refine ⟨fx, ss, x, s1, f, e1, fun v H1 k1 f1 r1 => ⟨fx, s1, y, _, f1, e2, fun u H2 k2 f2 r2 => ⟨x, y, z, r1.kp k2, r2, e4, fun w H3 sm rw => ?_⟩⟩⟩
  have f3 := f2.same sm
  have k3 := (k1.trans k2).trans (.same sm)
  split at e7
  · obtain ⟨w2, s4, e5, e⟩ := bind_ok e7
    obtain ⟨eg, rfl⟩ := of_ok e
    exact ⟨true, rw.bool, iteT ⟨fx, _, w2, _, f3, e5, fun t H4 k4 f4 r4 => ⟨y, w2, d, (r2.kp (.same sm)).kp k4, r4, eg, fun t2 H5 sm5 r5 => k t2 H5 ((k3.trans k4).trans (.same sm5)) (f4.same sm5) r5⟩⟩⟩
  · cases e7
    exact ⟨false, rw.bool, iteF (k _ H3 k3 f3 (.bl _))⟩
  · cases e7
theorem tch {c : Expr} {fc : FE} {op op' : CmpOp} {g g' : D → D → Option D} (ho : OpR X (compareOp op) (rD X.F g)) (ho' : OpR X (compareOp op') (rD X.F g')) (ha : PE X a (tD X.F fa)) (hb : PE X b (tD X.F fb)) (hc : PE X c (tD X.F fc)) (hm : lastMarks [op, op'] [b, c] = false := by with_unfolding_all rfl) :
    PT X (.Compare a [op, op'] [b, c] pos) (tT X.F (bOf (eCh g g' fa fb fc))) :=
  tread (pt_chain ho ho' ha hb hc hm) fun _ _ _ q => ch_read (c := c) q
end
end Dt

/-! Dt2: operators by data. -/
namespace Dt
open PySem PySem.Spec L2
open PyProof.Rows hiding St
open PySem.W (alike alikeAll dataLt)

/-! ### reading off -/
mutual
theorem Rep.dp {K : Fg} {H : Hp} : ∀ {v : V} {d : D}, Rep K H v d → d.plain = true → Dp K H v d
  | _, _, .non, _ => .non
  | _, _, .bl b, _ => .bl b
  | _, _, .int i, _ => .int i
  | _, _, .str x, _ => .str x
  | _, _, .lst h r, n => .lst h.sq (RepAll.dp r (by rw [PyData.plain] at n; exact n))
  | _, _, .tup h r, n => .tup h (RepAll.dp r (by rw [PyData.plain] at n; exact n))
  | _, _, .dK h r, n => by rw [PyData.plain] at n; cases n
  | _, _, .dN h c q r, n => by unfold ndD at n; rw [PyData.plain] at n; cases n
  | _, _, .ins h c r, n => by unfold insD at n; rw [PyData.plain] at n; cases n
  | _, _, .fn h, n => by unfold fnD at n; rw [PyData.plain] at n; cases n
theorem RepAll.dp {K : Fg} {H : Hp} : ∀ {vs : List V} {ds : List D}, RepAll K H vs ds → PyData.plainAll ds = true → DpAll K H vs ds
  | _, _, .nil, _ => .nil
  | _, _, .cons h r, n => by
    rw [PyData.plainAll, Bool.and_eq_true] at n
    exact .cons (Rep.dp h n.1) (RepAll.dp r n.2)
end
section
variable {K : Fg} {H : Hp}
theorem Rep.intv {v : V} {i : Int} (h : Rep K H v (.int i)) : v = .int i := by cases h; rfl
theorem Rep.strv {v : V} {i : Str} (h : Rep K H v (.str i)) : v = .str i := by cases h; rfl
theorem Rep.nonv {v : V} (h : Rep K H v .none) : v = .non := by cases h; rfl
theorem Rep.tupv {v : V} {ds : List D} (h : Rep K H v (.tuple ds)) : ∃ a xs, v = .ref a ∧ SqT K H a xs ∧ RepAll K H xs ds := by
  cases h with
  | tup h r => exact ⟨_, _, rfl, h, r⟩
theorem Rep.lstv {v : V} {ds : List D} (h : Rep K H v (.list ds)) : ∃ a xs, v = .ref a ∧ LstF K H a xs ∧ RepAll K H xs ds := by
  cases h with
  | lst h r => exact ⟨_, _, rfl, h, r⟩
theorem Rep.seqv {v : V} {ds : List D} {d : D} (e : d = .list ds ∨ d = .tuple ds) (h : Rep K H v d) : ∃ a xs, v = .ref a ∧ (SqL K H a xs ∨ SqT K H a xs) ∧ RepAll K H xs ds := by
  rcases e with rfl | rfl
  · obtain ⟨a, xs, e, h, r⟩ := h.lstv; exact ⟨a, xs, e, .inl h.sq, r⟩
  · obtain ⟨a, xs, e, h, r⟩ := h.tupv; exact ⟨a, xs, e, .inr h, r⟩
end

/-! ### + - * // % ** -/
def fits (n : Nat) (d : D) : Option D := if n ≤ sizeLine then some d else none
theorem fits_some {n : Nat} {d e : D} (h : fits n d = some e) : n ≤ sizeLine ∧ d = e := by
  unfold fits at h
  split at h
  · exact ⟨by assumption, Option.some.inj h⟩
  · cases h
def dAdd : D → D → Option D
  | .int i, .int j => some (.int (i + j))
  | .str x, .str y => fits (x.length + y.length) (.str (x ++ y))
  | .tuple xs, .tuple ys => fits (xs.length + ys.length) (.tuple (xs ++ ys))
  | .list xs, .list ys => fits (xs.length + ys.length) (.list (xs ++ ys))
  | .bool b, .int j => some (.int ((if b = true then 1 else 0) + j))
  | .int i, .bool b => some (.int (i + if b = true then 1 else 0))
  | _, _ => none
section
variable {X : Cx}
def rCatF (K : Fg) : R2 := fun x y H Q => ∃ l b xs zs, x = .ref l ∧ y = .ref b ∧ SqL K H l xs ∧ SqL K H b zs ∧ xs.length + zs.length ≤ sizeLine ∧ ∀ p, H p = none → Q (.ref p) (upd H p (.lst (xs ++ zs)))
theorem op_catF : OpR X (binaryOp .Add) (rCatF X.F) := by
  intro pins s σ H x y v u Q I rx ry h
  obtain ⟨l, b, xs, zs, rfl, rfl, hH, hB, hz, q⟩ := h
  cases rx
  cases ry
  obtain ⟨its, r, ⟨⟨cls, dd, data, sl⟩, n, ho, hc, hdn, hd⟩, hl⟩ := I.list hH
  obtain ⟨its2, r2, ⟨⟨cls2, dd2, data2, sl2⟩, n2, ho2, hc2, hdn2, hd2⟩, hl2⟩ := I.list hB
  simp only at hc hd hc2 hd2
  subst hc hd hc2 hd2
  have e1 := r.length
  have e2 := r2.length
  have e : its.toArray ++ its2.toArray = (its ++ its2).toArray := by simp
  refine concat_meets ⟨_, ho, rfl⟩ ⟨_, ho2, rfl⟩ PySem.noFill_list_add PySem.seq_list_add PySem.F.slot_list_add PySem.F.entry_list_add (PySem.F.args_list_add_2 _ _) (list_addW l b its.toArray its2.toArray n n2 dd dd2 sl sl2 (by rw [List.size_toArray, List.size_toArray]; omega)) ⟨ho, ho2, ?_⟩
  rw [e]
  exact ⟨.ref _, _, I.lnew (t' := s.toks) (r.append r2) (by rw [List.length_append]; omega), rfl, q _ I.fresh⟩
theorem opAdd : OpR X (binaryOp .Add) (rD X.F dAdd) := by
  intro pins s σ H x y v u Q I rx ry ⟨d, e, z, hd, he, hz, k⟩
  unfold dAdd at hz
  split at hz
  · cases hz
    obtain rfl := hd.intv
    obtain rfl := he.intv
    exact op_add pins s σ H _ _ _ _ Q I rx ry ⟨_, _, rfl, rfl, k _ _ (Same.refl H) (.int _)⟩
  · obtain ⟨hl, rfl⟩ := fits_some hz
    obtain rfl := hd.strv
    obtain rfl := he.strv
    exact op_add_str pins s σ H _ _ _ _ Q I rx ry ⟨_, _, rfl, rfl, hl, k _ _ (Same.refl H) (.str _)⟩
  · obtain ⟨hl, rfl⟩ := fits_some hz
    obtain ⟨a, xs, rfl, h1, r1⟩ := hd.tupv
    obtain ⟨b, ys, rfl, h2, r2⟩ := he.tupv
    refine op_catA pins s σ H _ _ _ _ Q I rx ry ⟨a, b, xs, ys, rfl, rfl, h1, h2, by rw [r1.len, r2.len]; exact hl, fun e => ?_, fun _ e => ?_, fun _ _ p hp => ?_⟩
    · subst e
      cases r1
      exact k _ _ (Same.refl H) he
    · subst e
      cases r2
      rw [List.append_nil] at k
      exact k _ _ (Same.refl H) hd
    · exact k _ _ (same_new hp) (.tup (.of upd_same) ((r1.append r2).kp (.same (same_new hp))))
  · obtain ⟨hl, rfl⟩ := fits_some hz
    obtain ⟨a, xs, rfl, h1, r1⟩ := hd.lstv
    obtain ⟨b, ys, rfl, h2, r2⟩ := he.lstv
    refine thn (op_catF pins s σ H _ _ _ _ (fun v H' => ∃ p, v = .ref p ∧ H p = none ∧ Same H H' ∧ OwnAt X.F H' p (.lst _)) I rx ry ⟨a, b, xs, ys, rfl, rfl, h1.sq, h2.sq, by rw [r1.len, r2.len]; exact hl, fun p hp => ⟨p, rfl, hp, same_new hp, _, upd_same, (r1.append r2).kp (.same (same_new hp))⟩⟩) fun _ _ q => ep_fz q k
  · cases hz
    obtain rfl := hd.bool
    obtain rfl := he.intv
    cases rx
    obtain ⟨t, rfl⟩ := ry
    exact PySem.IntBool.add_bool_int ⟨.int _, H, I.tok _, ⟨_, rfl⟩, k _ _ (Same.refl H) (.int _)⟩
  · cases hz
    obtain rfl := hd.intv
    obtain rfl := he.bool
    cases ry
    obtain ⟨t, rfl⟩ := rx
    exact add_int_bool ⟨.int _, H, I.tok _, ⟨_, rfl⟩, k _ _ (Same.refl H) (.int _)⟩
  · cases hz
def dI (g : Int → Int → Option D) : D → D → Option D
  | .int i, .int j => g i j
  | _, _ => none
def dSub : D → D → Option D
  | .int i, .int j => some (.int (i - j))
  | .bool b, .int j => some (.int ((if b = true then 1 else 0) - j))
  | .int i, .bool b => some (.int (i - if b = true then 1 else 0))
  | _, _ => none
def dDiv : D → D → Option D := dI fun i j => if 0 < j ∧ j.natAbs.log2 < 9000 then some (.int (i / j)) else none
def dMod : D → D → Option D := dI fun i j => if 0 < j then some (.int (i % j)) else none
def dPow : D → D → Option D := dI fun i j => if 0 ≤ j ∧ j ≤ 1000000 ∧ i.natAbs < 2 ^ 64 then some (.int (i ^ j.toNat)) else none
theorem dI_some {g : Int → Int → Option D} {d e z : D} (h : dI g d e = some z) : ∃ i j, d = .int i ∧ e = .int j ∧ g i j = some z := by
  unfold dI at h
  split at h
  · exact ⟨_, _, rfl, rfl, h⟩
  · cases h
theorem opSub : OpR X (binaryOp .Sub) (rD X.F dSub) := by
  intro pins s σ H x y v u Q I rx ry ⟨d, e, z, hd, he, hz, k⟩
  unfold dSub at hz
  split at hz
  · cases hz
    obtain rfl := hd.intv
    obtain rfl := he.intv
    exact op_sub pins s σ H _ _ _ _ Q I rx ry ⟨_, _, rfl, rfl, k _ _ (Same.refl H) (.int _)⟩
  · cases hz
    obtain rfl := hd.bool
    obtain rfl := he.intv
    cases rx
    obtain ⟨t, rfl⟩ := ry
    exact PySem.IntBool.sub_bool_int ⟨.int _, H, I.tok _, ⟨_, rfl⟩, k _ _ (Same.refl H) (.int _)⟩
  · cases hz
    obtain rfl := hd.intv
    obtain rfl := he.bool
    cases ry
    obtain ⟨t, rfl⟩ := rx
    exact PySem.IntBool.sub_int_bool ⟨.int _, H, I.tok _, ⟨_, rfl⟩, k _ _ (Same.refl H) (.int _)⟩
  · cases hz
theorem opDiv : OpR X (binaryOp .FloorDiv) (rD X.F dDiv) := by
  intro pins s σ H x y v u Q I rx ry ⟨d, e, z, hd, he, hz, k⟩
  obtain ⟨i, j, rfl, rfl, hg⟩ := dI_some hz
  clear hz
  split at hg
  · rename_i hc
    cases hg
    obtain rfl := hd.intv
    obtain rfl := he.intv
    exact op_fdivW pins s σ H _ _ _ _ Q I rx ry ⟨_, _, rfl, rfl, hc, k _ _ (Same.refl H) (.int _)⟩
  · cases hg
theorem opMod : OpR X (binaryOp .Mod) (rD X.F dMod) := by
  intro pins s σ H x y v u Q I rx ry ⟨d, e, z, hd, he, hz, k⟩
  obtain ⟨i, j, rfl, rfl, hg⟩ := dI_some hz
  clear hz
  split at hg
  · rename_i hc
    cases hg
    obtain rfl := hd.intv
    obtain rfl := he.intv
    exact op_mod pins s σ H _ _ _ _ Q I rx ry ⟨_, _, rfl, rfl, hc, k _ _ (Same.refl H) (.int _)⟩
  · cases hg
theorem opPow : OpR X (binaryOp .Pow) (rD X.F dPow) := by
  intro pins s σ H x y v u Q I rx ry ⟨d, e, z, hd, he, hz, k⟩
  obtain ⟨i, j, rfl, rfl, hg⟩ := dI_some hz
  clear hz
  split at hg
  · rename_i hc
    cases hg
    obtain rfl := hd.intv
    obtain rfl := he.intv
    exact op_pow pins s σ H _ _ _ _ Q I rx ry ⟨_, _, rfl, rfl, hc, k _ _ (Same.refl H) (.int _)⟩
  · cases hg
/-- x * n: an int, a text, a list, a tuple -/
def repS (x : Str) (n : Nat) : Str := ⟨(List.replicate n x.cps.toList).flatten.toArray⟩
def dMul : D → D → Option D
  | .int i, .int j => if i.natAbs.log2 + j.natAbs.log2 < 1000000 then some (.int (i * j)) else none
  | .str x, .int n => if -1000000 ≤ n ∧ n ≤ 1000000 then fits (x.length * n.toNat) (.str (repS x n.toNat)) else none
  | .list xs, .int n => if -1000000 ≤ n ∧ n ≤ 1000000 then fits (xs.length * n.toNat) (.list (List.replicate n.toNat xs).flatten) else none
  | .tuple xs, .int n => if xs ≠ [] ∧ 2 ≤ n ∧ n ≤ 1000 ∧ xs.length ≤ 1000 then some (.tuple (List.replicate n.toNat xs).flatten) else none
  | _, _ => none

def rRepF (K : Fg) : R2 := fun x y H Q => ∃ l k xs, x = .ref l ∧ y = .int k ∧ SqL K H l xs ∧ -(2 ^ 63) ≤ k ∧ k < 2 ^ 63 ∧ xs.length * k.toNat ≤ sizeLine ∧
  ∀ p, H p = none → Q (.ref p) (upd H p (.lst (List.replicate k.toNat xs).flatten))
theorem rmulL (a : Int) (t : Tok) (l : Addr) (items : Array Value) (n : Nat) (d : Option Addr) (sl : Array (Option Value)) :
    Meets (Builtin.«int.__rmul__» ⟨[.int a t, .ref l], []⟩) (fun _ R s => s.heap.get? l = some { cls := .type "list", dict := d, data := .seq items n, slots := sl } ∧ R (.ok (.ret Value.notImplemented)) s) :=
  .of_wp fun prog w A R s h => by obtain ⟨hp, g, d, tk, os⟩ := s; obtain ⟨hl, h⟩ := h; wp_walk; exact ⟨_, rfl, h⟩
theorem mulL (l : Addr) (items : Array Value) (n : Nat) (d : Option Addr) (sl : Array (Option Value)) (x : Int) (u : Tok) (hc0 : ¬(!Builtin.List.listFitsIndex x) = true) (hc1 : ¬items.size * x.toNat > (2 ^ 63 - 1) / 8) (hc2 : ¬Builtin.List.listTooLong (items.size * x.toNat) = true) :
    Meets (Builtin.«list.__mul__» ⟨[.ref l, .int x u], []⟩) (fun _ R s => s.heap.get? l = some { cls := .type "list", dict := d, data := .seq items n, slots := sl } ∧ R (.ok (.ret (Value.ref s.heap.objs.size))) { s with heap := s.heap.push { cls := Value.type "list", data := Data.seq (List.foldl (fun x1 x2 => x1 ++ x2) #[] (List.replicate (if items.isEmpty = true then 0 else x.toNat) items)) }, toks := s.toks }) :=
  .of_wp fun prog w A R s h => by
    obtain ⟨hp, g, d, tk, os⟩ := s; obtain ⟨hl, h⟩ := h
    have hsz := AutoListH.joined_fits hc2
    wp_walk; refine wpAny_ite_false (decide_eq_false (Nat.not_lt.mpr hsz)) ?_; wp_walk; exact ⟨_, rfl, h⟩
theorem op_repF : OpR X (binaryOp .Mult) (rRepF X.F) := by
  intro pins s σ H x y v u Q I rx ry h
  obtain ⟨l, k, xs, rfl, rfl, hH, h1, h2, hz, q⟩ := h
  cases rx
  obtain ⟨t, rfl⟩ := ry
  obtain ⟨its, r, ⟨⟨cls, dd, data, sl⟩, n, ho, hc, hdn, hd⟩, hl0⟩ := I.list hH
  simp only at hc hd
  subst hc hd
  have hl := r.length
  have hlen : its.toArray.size * k.toNat ≤ sizeLine := by rw [List.size_toArray, ← hl]; exact hz
  have hcap : ¬ its.toArray.size * k.toNat > (2 ^ 63 - 1) / 8 := by
    have : (sizeLine : Nat) ≤ (2 ^ 63 - 1) / 8 := by decide
    omega
  have hfit : ¬ (!Builtin.List.listFitsIndex k) = true := by
    rw [fitsIndex_both h1 h2]
    exact Bool.false_ne_true
  have hlong : ¬ Builtin.List.listTooLong (its.toArray.size * k.toNat) = true := by
    rw [notLongL hlen]
    exact Bool.false_ne_true
  have hnew : List.foldl (fun x1 x2 => x1 ++ x2) #[] (List.replicate (if its.toArray.isEmpty = true then 0 else k.toNat) its.toArray) = (List.replicate k.toNat its).flatten.toArray := by
    have f0 : ∀ m : Nat, List.foldl (fun x1 x2 => x1 ++ x2) #[] (List.replicate m its.toArray) = (List.replicate m its).flatten.toArray := fun m => by
      have := foldl_rep its m []
      rw [List.nil_append] at this
      exact this
    rw [f0]
    cases its with
    | nil => simp
    | cons a r' => rw [if_neg (by simp)]
  refine wpAny_binaryOp_repeat_ref (T := "list") (U := "int") (by decide) ⟨_, ho, rfl⟩ (fun s' => typeIs_int s' k t) noFill_list_mul F.fills_int_mul F.slot_int_rmul repeat_list F.slot_int_index.lookup
    (call_meets F.slot_int_rmul (typeIs_int s k t) F.entry_int_rmul (F.args_int_rmul_2 _ _) (rmulL k t l its.toArray n dd sl)
      ⟨ho, rfl, ⟨_, ho, rfl⟩, call_meets F.slot_list_mul ⟨_, ho, rfl⟩ F.entry_list_mul (F.args_list_mul_2 _ _) (mulL l its.toArray n dd sl k t hfit hcap hlong) ⟨ho, ?_⟩⟩)
  rw [hnew]
  exact ⟨.ref _, _, I.lnew (t' := s.toks) (r.rep k.toNat) (by rw [PyProof.Rows.lm_len_rep_flat, Nat.mul_comm]; exact hz), rfl, q _ I.fresh⟩
theorem RepAll.rep {K : Fg} {H : Hp} {vs : List V} {ds : List D} (h : RepAll K H vs ds) : ∀ n : Nat, RepAll K H (List.replicate n vs).flatten (List.replicate n ds).flatten
  | 0 => .nil
  | n + 1 => by
    rw [List.replicate_succ, List.replicate_succ, List.flatten_cons, List.flatten_cons]
    exact h.append (RepAll.rep h n)
theorem repS_eq (x : Str) (n : Nat) : (⟨(List.replicate n x.cps).foldl (· ++ ·) #[]⟩ : Str) = repS x n := by
  unfold repS
  congr 1
  have f0 : ∀ (m : Nat) (acc : Array Nat), List.foldl (fun x1 x2 => x1 ++ x2) acc (List.replicate m x.cps) = acc ++ (List.replicate m x.cps.toList).flatten.toArray := by
    intro m
    induction m with
    | zero => intro acc; simp
    | succ m ih =>
      intro acc
      rw [List.replicate_succ, List.foldl_cons, ih, List.replicate_succ, List.flatten_cons]
      apply Array.ext'
      simp
  rw [f0]
  simp
theorem len_rep {α : Type} (xs : List α) : ∀ n : Nat, (List.replicate n xs).flatten.length = xs.length * n
  | 0 => by simp
  | n + 1 => by rw [List.replicate_succ, List.flatten_cons, List.length_append, len_rep xs n, Nat.mul_succ, Nat.add_comm]
theorem repS_len (z : Str) (n : Nat) : (repS z n).length = z.length * n := by
  show (List.replicate n z.cps.toList).flatten.toArray.size = z.cps.size * n
  rw [List.size_toArray, len_rep, Array.length_toList]
theorem repS_one (z : Str) : repS z 1 = z := by
  unfold repS
  simp
theorem repS_nil {z : Str} (h : z.length = 0) (n : Nat) : repS z n = z := by
  have e : z.cps.toList = [] := List.eq_nil_of_length_eq_zero (by rw [Array.length_toList]; exact h)
  have e2 : z = ⟨#[]⟩ := by
    have : z.cps = #[] := by simpa using congrArg List.toArray e
    obtain ⟨c⟩ := z
    rw [show c = #[] from this]
  unfold repS
  rw [e, e2]
  simp
theorem op_repS : OpR X (binaryOp .Mult) (fun x y H Q => ∃ z n, x = .str z ∧ y = .int n ∧ -1000000 ≤ n ∧ n ≤ 1000000 ∧ z.length * n.toNat ≤ sizeLine ∧ Q (.str (repS z n.toNat)) H) := by
  intro pins s σ H x y v u Q I rx ry h
  obtain ⟨z, n, rfl, rfl, h1, h2, h4, q⟩ := h
  obtain ⟨t, rfl⟩ := rx
  obtain ⟨t', rfl⟩ := ry
  have hs := sizeLine_eq
  refine PySem.P.mul_str ?_ (fun hn hb => ?_) (fun hn _ => ?_) ?_
  · simp only [Bool.or_eq_false_iff, decide_eq_false_iff_not]
    omega
  · have hz : z.length ≤ 16777216 := by
      have : z.length * 1 ≤ z.length * n.toNat := Nat.mul_le_mul_left _ (by omega)
      omega
    have : (16777216 : Int) ≤ (2 ^ 63 - 1) / n := by
      rw [Int.le_ediv_iff_mul_le (by omega)]
      omega
    omega
  · exact decide_eq_false (by omega)
  · by_cases c : n < 1
    · rw [if_pos c]
      have e : n.toNat = 0 := by omega
      rw [e] at q
      exact ⟨by decide, .str _, H, I.tok _, ⟨_, rfl⟩, q⟩
    · rw [if_neg c]
      by_cases c1 : (n == 1 || z.length == 0) = true
      · rw [if_pos c1]
        have e : repS z n.toNat = z := by
          rw [Bool.or_eq_true] at c1
          rcases c1 with c1 | c1
          · have : n = 1 := by simpa using c1
            rw [this]; exact repS_one z
          · exact repS_nil (by simpa using c1) _
        rw [e] at q
        exact ⟨.str z, H, I, ⟨t, rfl⟩, q⟩
      · rw [if_neg c1, repS_eq]
        exact ⟨by rw [repS_len]; exact h4, ⟨.str _, H, I.tok _, ⟨_, rfl⟩, q⟩⟩
theorem opMul : OpR X (binaryOp .Mult) (rD X.F dMul) := by
  intro pins s σ H x y v u Q I rx ry ⟨d, e, z, hd, he, hz, k⟩
  unfold dMul at hz
  split at hz
  · split at hz
    · rename_i hc
      cases hz
      obtain rfl := hd.intv
      obtain rfl := he.intv
      exact op_mulW pins s σ H _ _ _ _ Q I rx ry ⟨_, _, rfl, rfl, hc, k _ _ (Same.refl H) (.int _)⟩
    · cases hz
  · split at hz
    · rename_i hc
      obtain ⟨hl, rfl⟩ := fits_some hz
      obtain rfl := hd.strv
      obtain rfl := he.intv
      exact op_repS pins s σ H _ _ _ _ Q I rx ry ⟨_, _, rfl, rfl, hc.1, hc.2, hl, k _ _ (Same.refl H) (.str _)⟩
    · cases hz
  · split at hz
    · rename_i hc
      obtain ⟨hl, rfl⟩ := fits_some hz
      obtain ⟨a, xs, rfl, h1, r1⟩ := hd.lstv
      obtain rfl := he.intv
      exact thn (op_repF pins s σ H _ _ _ _ (fun v H' => ∃ p, v = .ref p ∧ H p = none ∧ Same H H' ∧ OwnAt X.F H' p (.lst _)) I rx ry ⟨a, _, xs, rfl, rfl, h1.sq, by omega, by omega, by rw [r1.len]; exact hl, fun p hp => ⟨p, rfl, hp, same_new hp, _, upd_same, (r1.rep _).kp (.same (same_new hp))⟩⟩) fun _ _ q => ep_fz q k
    · cases hz
  · split at hz
    · rename_i hc
      cases hz
      obtain ⟨a, xs, rfl, h1, r1⟩ := hd.tupv
      obtain rfl := he.intv
      exact op_repT pins s σ H _ _ _ _ Q I rx ry ⟨a, _, xs, rfl, rfl, h1, fun e => hc.1 (by subst e; cases r1; rfl), hc.2.1, hc.2.2.1, by rw [r1.len]; exact hc.2.2.2, fun p hp => k _ _ (same_new hp) (.tup (.of upd_same) ((r1.rep _).kp (.same (same_new hp))))⟩
    · cases hz
  · cases hz
end
end Dt

/-! Dt2b: dicts as data: keys, what they hold, by values. -/
namespace Dt
open PySem PySem.Spec L2
open PyProof.Rows hiding St
mutual
def nkOf : D → Option NestedKey
  | .none => some .none
  | .int i => some (.num i)
  | .str x => some (.text x)
  | .tuple ds => (nkAll ds).map .tup
  | .bool _ | .list _ | .dict _ => none
def nkAll : List D → Option (List NestedKey)
  | [] => some []
  | d :: ds => match nkOf d, nkAll ds with
    | some k, some ks => some (k :: ks)
    | _, _ => none
end
mutual
theorem nkOf_data : ∀ k : NestedKey, nkOf k.data = some k
  | .none => rfl
  | .num i => rfl
  | .text x => rfl
  | .tup ks => by rw [NestedKey.data, nkOf, nkAll_data ks]; rfl
theorem nkAll_data : ∀ ks : List NestedKey, nkAll (NestedKey.datas ks) = some ks
  | [] => rfl
  | k :: ks => by rw [NestedKey.datas, nkAll, nkOf_data k, nkAll_data ks]
end
mutual
theorem data_nkOf : ∀ {d : D} {k : NestedKey}, nkOf d = some k → d = k.data
  | .none, _, h => by cases h; rfl
  | .int i, _, h => by cases h; rfl
  | .str i, _, h => by cases h; rfl
  | .tuple ds, k, h => by
    rw [nkOf] at h
    obtain ⟨ks, h1, rfl⟩ := Option.map_eq_some_iff.mp h
    rw [NestedKey.data, datas_nkAll h1]
  | .bool _, _, h => by cases h
  | .list _, _, h => by cases h
  | .dict _, _, h => by cases h
theorem datas_nkAll : ∀ {ds : List D} {ks : List NestedKey}, nkAll ds = some ks → ds = NestedKey.datas ks
  | [], _, h => by cases h; rfl
  | d :: ds, ks, h => by
    rw [nkAll] at h
    cases e1 : nkOf d with
    | none => rw [e1] at h; cases h
    | some k =>
      cases e2 : nkAll ds with
      | none => rw [e1, e2] at h; cases h
      | some ks' =>
        rw [e1, e2] at h
        cases h
        rw [NestedKey.datas, data_nkOf e1, datas_nkAll e2]
end
def kEq (a b : D) : Bool := decide (nkOf a = nkOf b)
/-- what a dict holds at a key; with k set; without k -/
def look (kvs : List (D × D)) (k : D) : Option D := (kvs.find? fun p => kEq p.1 k).map (·.2)
def dput (kvs : List (D × D)) (k v : D) : List (D × D) := if (kvs.any fun p => kEq p.1 k) = true then kvs.map (fun p => if kEq p.1 k = true then (p.1, v) else p) else kvs ++ [(k, v)]
def ddrop (kvs : List (D × D)) (k : D) : List (D × D) := kvs.filter fun p => !kEq p.1 k
/-- the dicts among the data: with tuple keys or not -/
def kvsOf : D → Option (Bool × List (D × D))
  | .dict ((.list [], .none) :: kvs) => some (true, kvs)
  | .dict ((.none, _) :: _) => none
  | .dict kvs => some (false, kvs)
  | _ => none
def mkD (n : Bool) (kvs : List (D × D)) : D := if n = true then ndD kvs else .dict kvs
def mkO (n : Bool) (kvs : List (D × D)) : O := if n = true then .dnt kvs else .dct kvs
/-- keys that a dict of its kind takes -/
def kGood (n : Bool) (k : D) : Bool := if n = true then (match nkOf k with | some k => kOk k | none => false) else (match k with | .int _ => true | .str _ => true | _ => false)
theorem nk_keyD (k : Key) : nkOf (keyD k) = some (match k with | .inl i => .num i | .inr x => .text x) := by cases k <;> rfl
theorem kEq_keyD (j k : Key) : kEq (keyD j) (keyD k) = decide (j = k) := by
  unfold kEq
  rw [nk_keyD, nk_keyD, decide_eq_decide]
  cases j <;> cases k <;> simp
theorem kEq_data (j k : NestedKey) : kEq j.data k.data = decide (j = k) := by
  unfold kEq
  rw [nkOf_data, nkOf_data, decide_eq_decide]
  simp
/-- a dict that may be read -/
inductive DAt (K : Fg) (H : Hp) (a : Addr) : Bool → List (D × D) → Prop
  | k {kvs : List (Key × V)} {ds : List D} : Rd H a (.dK kvs) → RepAll K H (kvs.map (·.2)) ds → DAt K H a false ((kvs.map fun p => keyD p.1).zip ds)
  | n {kks : List NestedKey} {kvs : List (V × V)} {ds : List D} : Rd H a (NdO K.w a kks kvs) → kks.all kOk = true → RepAll K H (kvs.map (·.1)) (kks.map NestedKey.data) → RepAll K H (kvs.map (·.2)) ds → DAt K H a true ((kks.map NestedKey.data).zip ds)
theorem head_key {K : Fg} {H : Hp} {kvs : List (Key × V)} {ds : List D} {x : D × D} {r : List (D × D)} (e : (kvs.map fun p => keyD p.1).zip ds = x :: r) : ∃ k, x.1 = keyD k := by
  cases kvs with
  | nil => cases e
  | cons p t => cases ds with
    | nil => cases e
    | cons d ds => cases e; exact ⟨_, rfl⟩
theorem kvsOf_dK {kvs : List (Key × V)} {ds : List D} : kvsOf (.dict ((kvs.map fun p => keyD p.1).zip ds)) = some (false, (kvs.map fun p => keyD p.1).zip ds) := by
  cases kvs with
  | nil => rfl
  | cons p t => cases ds with
    | nil => rfl
    | cons d ds =>
      obtain ⟨k, v⟩ := p
      cases k <;> rfl
theorem Rep.dat {K : Fg} {H : Hp} {v : V} {d : D} {n : Bool} {kvs : List (D × D)} (h : Rep K H v d) (e : kvsOf d = some (n, kvs)) : ∃ a, v = .ref a ∧ DAt K H a n kvs := by
  cases h with
  | dK h r => rw [kvsOf_dK] at e; cases e; exact ⟨_, rfl, .k (.inr ⟨_, h⟩) r⟩
  | dN h c q r => cases e; exact ⟨_, rfl, .n (.inr ⟨_, h⟩) c q r⟩
  | ins h c r => cases e
  | fn h => cases e
  | _ => cases e
theorem OwnAt.dat {K : Fg} {H : Hp} {p : Addr} {n : Bool} {kvs : List (D × D)} (h : OwnAt K H p (mkO n kvs)) : DAt K H p n kvs := by
  cases n with
  | false => obtain ⟨k, es, h1, h2, rfl⟩ := h; exact .k (.inl h1) h2
  | true => obtain ⟨kk, k, es, h1, h0, h2, h3, rfl⟩ := h; exact .n (.inl h1) h0 h2 h3
theorem rd_kp {H H' : Hp} {a : Addr} {u : HO} (k : Same H H') (h : Rd H a u) : Rd H' a u := by
  rcases h with h | ⟨o, h⟩
  · exact .inl (k _ _ h)
  · exact .inr ⟨o, k _ _ h⟩
theorem DAt.same {K : Fg} {H H' : Hp} {a : Addr} {n : Bool} {kvs : List (D × D)} (k : Same H H') (h : DAt K H a n kvs) : DAt K H' a n kvs := by
  cases h with
  | k h r => exact .k (rd_kp k h) (r.kp (.same k))
  | n h c q r => exact .n (rd_kp k h) c (q.kp (.same k)) (r.kp (.same k))
section
variable {K : Fg} {H : Hp}
theorem look_k {k : Key} : ∀ {kvs : List (Key × V)} {ds : List D}, RepAll K H (kvs.map (·.2)) ds → match look ((kvs.map fun p => keyD p.1).zip ds) (keyD k) with
    | some d => ∃ v, valV kvs k = some v ∧ Rep K H v d
    | none => valV kvs k = none
  | [], ds, h => by cases h; exact valV_nil
  | p :: r, ds, h => by
    cases h with
    | @cons _ _ d ds h t =>
      have ih := look_k (k := k) t
      unfold look at *
      rw [List.map_cons, List.zip_cons_cons, List.find?_cons]
      simp only [kEq_keyD]
      by_cases e : p.1 = k
      · rw [decide_eq_true e]
        exact ⟨p.2, valV_pos e, h⟩
      · rw [decide_eq_false e, valV_neg e]
        exact ih
theorem look_isSome {k : Key} {kvs : List (Key × V)} {ds : List D} (h : RepAll K H (kvs.map (·.2)) ds) : (look ((kvs.map fun p => keyD p.1).zip ds) (keyD k)).isSome = (valV kvs k).isSome := by
  have := look_k (k := k) h
  cases e : look ((kvs.map fun p => keyD p.1).zip ds) (keyD k) with
  | none => rw [e] at this; rw [show valV kvs k = none from this]; rfl
  | some d => rw [e] at this; obtain ⟨v, h1, _⟩ := this; rw [h1]; rfl
/-- by values: the entries of a dict with tuple keys -/
theorem look_n {k : NestedKey} : ∀ {kks : List NestedKey} {kvs : List (V × V)} {ds : List D} {xs : List (NestedKey × Addr × Value)}, xs.map (·.1) = kks → Paired (fun (p : V × V) (q : NestedKey × Addr × Value) => p.1 = .ref q.2.1 ∧ RelV p.2 q.2.2) kvs xs → RepAll K H (kvs.map (·.2)) ds →
    match look ((kks.map NestedKey.data).zip ds) k.data with
    | some d => ∃ u v, valueAt (pairsH xs) k = some u ∧ RelV v u ∧ Rep K H v d
    | none => valueAt (pairsH xs) k = none
  | kks, [], ds, xs, e, p, h => by cases p; cases h; cases e; rfl
  | kks, q :: kvs, ds, xs, e, p, h => by
    cases h with
    | @cons _ _ d ds h t =>
      cases p with
      | @cons _ x _ xs p1 p2 =>
        rw [← e]
        have ih := look_n (k := k) rfl p2 t
        unfold look at *
        rw [List.map_cons, List.map_cons, List.zip_cons_cons, List.find?_cons]
        simp only [kEq_data]
        by_cases e : x.1 = k
        · rw [decide_eq_true e]
          refine ⟨x.2.2, q.2, ?_, p1.2, h⟩
          simp [valueAt, pairsH, e]
        · rw [decide_eq_false e]
          have e2 : valueAt (pairsH (x :: xs)) k = valueAt (pairsH xs) k := by simp [valueAt, pairsH, e]
          rw [e2]
          exact ih
theorem look_n_isSome {k : NestedKey} {kks : List NestedKey} {kvs : List (V × V)} {ds : List D} {xs : List (NestedKey × Addr × Value)} (e : xs.map (·.1) = kks) (p : Paired (fun (p : V × V) (q : NestedKey × Addr × Value) => p.1 = .ref q.2.1 ∧ RelV p.2 q.2.2) kvs xs) (h : RepAll K H (kvs.map (·.2)) ds) :
    (look ((kks.map NestedKey.data).zip ds) k.data).isSome = (valueAt (pairsH xs) k).isSome := by
  have := look_n (k := k) e p h
  cases e : look ((kks.map NestedKey.data).zip ds) k.data with
  | none => rw [e] at this; rw [show valueAt (pairsH xs) k = none from this]; rfl
  | some d => rw [e] at this; obtain ⟨u, v, h1, _⟩ := this; rw [h1]; rfl
end
section
variable {X : Cx}
theorem _root_.Dt.Rep.reads {pins : List (Addr × Obj)} {σ : St} {H : Hp} {s : Shared} {v : V} {u : Value} {d : D} (h : Rep X.F H v d) (I : Inv X pins σ H s) (n : d.plain = true) (r : RelV v u) : ∃ as, Reads s.heap u d as := Dp.reads I d v u (h.dp n) r
end
/-! what a key is, in the heap -/
mutual
theorem nested_of {h : Heap} : ∀ {k : NestedKey} {u : Value} {as : List Addr}, Reads h u k.data as → NestedIs h k u
  | .none, u, as, r => by rw [NestedKey.data] at r; cases r; exact .none
  | .num i, u, as, r => by rw [NestedKey.data] at r; cases r; exact .int _ _
  | .text x, u, as, r => by rw [NestedKey.data] at r; cases r; exact .text _ _
  | .tup ks, u, as, r => by
    rw [NestedKey.data] at r
    cases r with
    | tuple h1 h2 h3 h4 => exact .tup h1 h2 h3 (nested_all h4)
theorem nested_all {h : Heap} : ∀ {ks : List NestedKey} {us : List Value} {as : List Addr}, ReadsAll h us (NestedKey.datas ks) as → NestedAll h ks us
  | [], us, as, r => by rw [NestedKey.datas] at r; cases r; exact .nil
  | k :: ks, us, as, r => by
    rw [NestedKey.datas] at r
    cases r with
    | cons h1 h2 => exact .cons (nested_of h1) (nested_all h2)
end
mutual
theorem data_plain : ∀ k : NestedKey, k.data.plain = true
  | .none => rfl
  | .num _ => rfl
  | .text _ => rfl
  | .tup ks => by rw [NestedKey.data, PyData.plain]; exact datas_plain ks
theorem datas_plain : ∀ ks : List NestedKey, PyData.plainAll (NestedKey.datas ks) = true
  | [] => rfl
  | k :: ks => by rw [NestedKey.datas, PyData.plainAll, data_plain k, datas_plain ks]; rfl
end
end Dt

/-! Dt2c: dicts by values: read, asked, written. -/
namespace Dt
open PySem PySem.Spec L2
open PyProof.Rows hiding St
section
variable {X : Cx} {pins : List (Addr × Obj)} {σ : St} {H : Hp} {s : Shared} {a : Addr} {y v : V} {u r : Value} {d e k : D} {n : Bool} {kvs : List (D × D)} {A : Around} {E : Value → Shared → Prop}
abbrev NPair (p : V × V) (q : NestedKey × Addr × Value) : Prop := p.1 = .ref q.2.1 ∧ RelV p.2 q.2.2
theorem kOk_of {k : NestedKey} (h : kOk k = true) : k.depth ≤ 8 ∧ ∃ ks, k = .tup ks := by
  unfold kOk at h
  rw [Bool.and_eq_true, decide_eq_true_eq] at h
  obtain ⟨h1, h2⟩ := h
  cases k with
  | tup ks => exact ⟨h1, ks, rfl⟩
  | _ => cases h2
theorem rep_key (I : Inv X pins σ H s) {b : Addr} {kk : NestedKey} (h : Rep X.F H (.ref b) kk.data) (c : kOk kk = true) : (nestedKind X.prog X.w).is s.heap kk b := by
  obtain ⟨as, rd⟩ := Rep.reads (X := X) h I (data_plain kk) (show RelV (V.ref b) (Value.ref b) from rfl)
  exact ⟨nested_of rd, (kOk_of c).1⟩
theorem npair_keys (I : Inv X pins σ H s) : ∀ {kvs : List (V × V)} {xs : List (NestedKey × Addr × Value)}, Paired NPair kvs xs → (xs.map (·.1)).all kOk = true → RepAll X.F H (kvs.map (·.1)) ((xs.map (·.1)).map NestedKey.data) → ∀ x ∈ xs, (nestedKind X.prog X.w).is s.heap x.1 x.2.1
  | [], [], _, _, _, x, hx => nomatch hx
  | p :: kvs, x :: xs, .cons h t, c, r, z, hz => by
    rw [List.map_cons, List.all_cons, Bool.and_eq_true] at c
    cases r with
    | cons r1 r2 =>
      rcases List.mem_cons.mp hz with rfl | hz
      · have : p.1 = V.ref z.2.1 := h.1
        have r1' : Rep X.F H (p.1) z.1.data := r1
        rw [this] at r1'
        exact rep_key I r1' c.1
      · exact npair_keys I t c.2 r2 z hz
theorem nd_at {kks : List NestedKey} {kvs : List (V × V)} (I : Inv X pins σ H s) (h : Rd H a (NdO X.w a kks kvs)) (c : kks.all kOk = true) (q : RepAll X.F H (kvs.map (·.1)) (kks.map NestedKey.data)) :
    kvs.length ≤ sizeLine ∧ (a == sysModules) = false ∧ ∃ xs : List (NestedKey × Addr × Value), xs.map (·.1) = kks ∧ Paired NPair kvs xs ∧ s.heap.DictOfH (nestedKind X.prog X.w) a xs := by
  have ok : ObjOk X.prog X.w H s.heap a (NdO X.w a kks kvs) := h.ok I.hok
  obtain ⟨⟨z, hd, nd, xs, e1, p, o, es, ep, h1, h2, h3, h4⟩, _⟩ := ok
  subst e1
  exact ⟨z, hd, xs, rfl, p, o, es, ep, h1, h2, h3, h4, npair_keys I p c q, nd⟩
/-- a key of its kind -/
theorem good_k (h : kGood false k = true) (r : Rep X.F H y k) : ∃ key : Key, k = keyD key ∧ y = kV key := by
  cases k with
  | int i => exact ⟨.inl i, rfl, r.intv⟩
  | str x => exact ⟨.inr x, rfl, r.strv⟩
  | _ => simp [kGood] at h
theorem good_n (h : kGood true k = true) (r : Rep X.F H y k) : ∃ (kk : NestedKey) (b : Addr), k = kk.data ∧ y = .ref b ∧ kOk kk = true := by
  unfold kGood at h
  rw [if_pos rfl] at h
  split at h
  · rename_i kk hk
    have e := data_nkOf hk
    obtain ⟨_, ks, rfl⟩ := kOk_of h
    subst e
    rw [NestedKey.data] at r
    obtain ⟨b, xs, e, _⟩ := r.tupv
    exact ⟨.tup ks, b, rfl, e, h⟩
  · cases h
theorem nroom (hu : A.units + 64 < cLine) : (nestedKind X.prog X.w).room A.in1 := by
  show A.units + 1 + 8 < cLine
  omega
theorem da_getItem {Q : Value → Shared → Prop} (hu : A.units + 64 < cLine) (I : Inv X pins σ H s) (g : DAt X.F H a n kvs) (hk : Rep X.F H y k) (kg : kGood n k = true) (ry : RelV y u) (l : look kvs k = some d)
    (h : ∀ v w s', Inv X pins σ H s' → RelV v w → Rep X.F H v d → Q w s') : wpAny (model X.prog X.w) A (getItem (.ref a) u) Q E s := by
  cases g with
  | k hr r =>
    obtain ⟨key, rfl, rfl⟩ := good_k kg hk
    have q := look_k (k := key) r
    rw [l] at q
    obtain ⟨v, q1, q2⟩ := q
    exact d_getItem (by omega) I (.inl ⟨_, key, hr, rfl, q1.symm⟩) ry fun w' s' I' r' => h v w' s' I' r' q2
  | n hr c q r =>
    obtain ⟨kk, b, rfl, rfl, hc⟩ := good_n kg hk
    cases (show u = Value.ref b from ry)
    obtain ⟨_, hd, xs, e1, p, dd⟩ := nd_at I hr c q
    have q2 := look_n (k := kk) e1 p r
    rw [l] at q2
    obtain ⟨u2, v, q3, q4, q5⟩ := q2
    exact getItem_keyed (nroom hu) (rep_key I hk hc) ⟨xs, dd, rfl⟩ q3 (h v _ _ (I.tok _) q4 q5)
theorem da_in {Q : Value → Shared → Prop} (hu : A.units + 64 < cLine) (I : Inv X pins σ H s) (g : DAt X.F H a n kvs) (hk : Rep X.F H y k) (kg : kGood n k = true) (ry : RelV y u)
    (h : ∀ s', Inv X pins σ H s' → Q (.bool (look kvs k).isSome) s') : wpAny (model X.prog X.w) A (compareOp .In u (.ref a)) Q E s := by
  cases g with
  | k hr r =>
    obtain ⟨key, rfl, rfl⟩ := good_k kg hk
    rw [look_isSome r] at h
    exact d_in (by omega) I (.inl ⟨_, key, hr, rfl, rfl⟩) ry h
  | n hr c q r =>
    obtain ⟨kk, b, rfl, rfl, hc⟩ := good_n kg hk
    cases (show u = Value.ref b from ry)
    obtain ⟨_, hd, xs, e1, p, dd⟩ := nd_at I hr c q
    rw [look_n_isSome e1 p r] at h
    exact in_keyed (nroom hu) (rep_key I hk hc) hd ⟨xs, dd, rfl⟩ (h _ (I.tok _))
theorem da_notIn {Q : Value → Shared → Prop} (hu : A.units + 64 < cLine) (I : Inv X pins σ H s) (g : DAt X.F H a n kvs) (hk : Rep X.F H y k) (kg : kGood n k = true) (ry : RelV y u)
    (h : ∀ s', Inv X pins σ H s' → Q (.bool (!(look kvs k).isSome)) s') : wpAny (model X.prog X.w) A (compareOp .NotIn u (.ref a)) Q E s := by
  cases g with
  | k hr r =>
    obtain ⟨key, rfl, rfl⟩ := good_k kg hk
    rw [look_isSome r] at h
    exact d_notIn (by omega) I (.inl ⟨_, key, hr, rfl, rfl⟩) ry h
  | n hr c q r =>
    obtain ⟨kk, b, rfl, rfl, hc⟩ := good_n kg hk
    cases (show u = Value.ref b from ry)
    obtain ⟨_, hd, xs, e1, p, dd⟩ := nd_at I hr c q
    rw [look_n_isSome e1 p r] at h
    exact notIn_keyed (nroom hu) (rep_key I hk hc) hd ⟨xs, dd, rfl⟩ (h _ (I.tok _))
theorem relO_rep {kvs : List (Key × V)} {vs : List (Key × Value)} (rel : KV kvs vs) (k : Key) : RelO (valV kvs k) (valueAt vs k) := rel.val k
/-- d.get(k, x): what it gives -/
theorem da_get2 {Q : Value → Shared → Prop} (hu : A.units + 64 < cLine) (I : Inv X pins σ H s) (g : DAt X.F H a n kvs) (hk : Rep X.F H y k) (kg : kGood n k = true) (ry : RelV y u) (rx : RelV v r) (he : Rep X.F H v e)
    (h : ∀ v w s', Inv X pins σ H s' → RelV v w → Rep X.F H v ((look kvs k).getD e) → Q w s') : wpAny (model X.prog X.w) A (call (.builtin "dict.get") [.ref a, u, r]) Q E s := by
  cases g with
  | k hr rr =>
    obtain ⟨key, rfl, rfl⟩ := good_k kg hk
    have q := look_k (k := key) rr
    refine d_get2 (by omega) I (.inl ⟨_, key, hr, rfl, rfl⟩) ry rx fun w' s' I' r' => ?_
    cases el : look ((_ : List (Key × V)).map (fun p => keyD p.1) |>.zip _) (keyD key) with
    | none =>
      rw [el] at q
      rw [show valV _ key = none from q] at r'
      refine h v _ _ I' r' ?_
      rw [el]
      exact he
    | some d =>
      rw [el] at q
      obtain ⟨v', q3, q4⟩ := q
      rw [q3] at r'
      refine h v' _ _ I' r' ?_
      rw [el]
      exact q4
  | n hr c q rr =>
    obtain ⟨kk, b, rfl, rfl, hc⟩ := good_n kg hk
    cases (show u = Value.ref b from ry)
    obtain ⟨_, hd, xs, e1, p, dd⟩ := nd_at I hr c q
    have q2 := look_n (k := kk) e1 p rr
    refine getOr_keyed (nroom hu) (rep_key I hk hc) hd ⟨xs, dd, rfl⟩ ?_
    cases el : look ((_ : List NestedKey).map NestedKey.data |>.zip _) kk.data with
    | none =>
      rw [el] at q2
      rw [show valueAt (pairsH xs) kk = none from q2]
      refine h v _ _ (I.tok _) rx ?_
      rw [el]
      exact he
    | some d =>
      rw [el] at q2
      obtain ⟨u2, v', q3, q4, q5⟩ := q2
      rw [q3]
      refine h v' _ _ (I.tok _) q4 ?_
      rw [el]
      exact q5
end
end Dt

/-! Dt2d: d[k] = v. -/
namespace Dt
open PySem PySem.Spec L2
open PyProof.Rows hiding St
section
variable {K : Fg} {H : Hp}
theorem kany {kvs : List (Key × V)} {k : Key} : ∀ {ds : List D}, ds.length = kvs.length → (((kvs.map fun p => keyD p.1).zip ds).any fun p => kEq p.1 (keyD k)) = kvs.any fun kv => decide (kv.1 = k) := by
  induction kvs with
  | nil => intro ds _; rfl
  | cons p r ih =>
    intro ds h
    cases ds with
    | nil => cases h
    | cons d ds =>
      rw [List.map_cons, List.zip_cons_cons, List.any_cons, List.any_cons, ih (Nat.succ.inj h), kEq_keyD]
theorem put_k {k : Key} {v : V} {e : D} (hv : Rep K H v e) {kvs : List (Key × V)} {ds : List D} (h : RepAll K H (kvs.map (·.2)) ds) :
    ∃ ds', RepAll K H ((putK kvs k v).map (·.2)) ds' ∧ dput ((kvs.map fun p => keyD p.1).zip ds) (keyD k) e = ((putK kvs k v).map fun p => keyD p.1).zip ds' := by
  have hl : ds.length = kvs.length := by rw [← h.len, List.length_map]
  unfold dput putK
  rw [kany hl]
  by_cases c : (kvs.any fun kv => decide (kv.1 = k)) = true
  · rw [if_pos c, if_pos c]
    clear c hl
    induction kvs generalizing ds with
    | nil => cases h; exact ⟨[], .nil, rfl⟩
    | cons p r ih =>
      cases h with
      | @cons _ _ d ds h t =>
        obtain ⟨ds', h1, h2⟩ := ih t
        simp only [List.map_cons, List.zip_cons_cons, kEq_keyD, h2]
        by_cases e : p.1 = k
        · rw [if_pos e, decide_eq_true e, if_pos rfl]
          exact ⟨_ :: ds', .cons hv h1, rfl⟩
        · rw [if_neg e, decide_eq_false e, if_neg (by decide)]
          exact ⟨d :: ds', .cons h h1, rfl⟩
  · rw [if_neg c, if_neg c]
    refine ⟨ds ++ [e], ?_, ?_⟩
    · rw [List.map_append]
      exact h.append (.cons hv .nil)
    · rw [List.map_append, List.zip_append (by rw [List.length_map, hl])]
      rfl
/-! tuple keys -/
def nrepl (k : NestedKey) (v : V) : List NestedKey → List (V × V) → List (V × V)
  | j :: js, p :: ps => (if j = k then (p.1, v) else p) :: nrepl k v js ps
  | _, _ => []
theorem nrepl_fst {k : NestedKey} {v : V} : ∀ {kks : List NestedKey} {kvs : List (V × V)}, kvs.length = kks.length → (nrepl k v kks kvs).map (·.1) = kvs.map (·.1)
  | [], [], _ => rfl
  | j :: js, p :: ps, h => by
    rw [nrepl, List.map_cons, List.map_cons, nrepl_fst (Nat.succ.inj h)]
    split <;> rfl
  | [], p :: ps, h => by cases h
  | j :: js, [], h => by cases h
theorem nrepl_pair {k : NestedKey} {v : V} {u : Value} (r : RelV v u) : ∀ {kks : List NestedKey} {kvs : List (V × V)} {xs : List (NestedKey × Addr × Value)}, xs.map (·.1) = kks → Paired NPair kvs xs → Paired NPair (nrepl k v kks kvs) (xs.map (putAt k u))
  | _, [], [], e, _ => by cases e; exact .nil
  | _, p :: kvs, x :: xs, e, .cons h t => by
    cases e
    have ih := nrepl_pair (k := k) r (kks := xs.map (·.1)) rfl t
    rw [List.map_cons, List.map_cons, nrepl]
    refine .cons ?_ ih
    unfold putAt
    by_cases c : x.1 = k
    · rw [if_pos c, if_pos c]; exact ⟨h.1, r⟩
    · rw [if_neg c, if_neg c]; exact h
theorem nany {k : NestedKey} : ∀ {kks : List NestedKey} {ds : List D}, ds.length = kks.length → (((kks.map NestedKey.data).zip ds).any fun p => kEq p.1 k.data) = decide (k ∈ kks)
  | [], ds, _ => by simp
  | j :: js, [], h => by cases h
  | j :: js, d :: ds, h => by
    rw [List.map_cons, List.zip_cons_cons, List.any_cons, nany (Nat.succ.inj h), kEq_data, Bool.eq_iff_iff]
    simp only [Bool.or_eq_true, decide_eq_true_eq, List.mem_cons]
    exact or_congr_left eq_comm
theorem put_n {k : NestedKey} {v : V} {e : D} (hv : Rep K H v e) : ∀ {kks : List NestedKey} {kvs : List (V × V)} {ds : List D}, kvs.length = kks.length → RepAll K H (kvs.map (·.2)) ds →
    ∃ ds', RepAll K H ((nrepl k v kks kvs).map (·.2)) ds' ∧ (((kks.map NestedKey.data).zip ds).map fun p => if kEq p.1 k.data = true then (p.1, e) else p) = (kks.map NestedKey.data).zip ds'
  | [], [], ds, _, h => by cases h; exact ⟨[], .nil, rfl⟩
  | j :: js, p :: ps, ds, hl, h => by
    cases h with
    | @cons _ _ d ds h t =>
      obtain ⟨ds', h1, h2⟩ := put_n (k := k) hv (Nat.succ.inj hl) t
      rw [nrepl, List.map_cons, List.map_cons, List.zip_cons_cons, List.map_cons, kEq_data, h2]
      by_cases e : j = k
      · rw [if_pos e, decide_eq_true e, if_pos rfl]
        exact ⟨_ :: ds', .cons hv h1, rfl⟩
      · rw [if_neg e, decide_eq_false e, if_neg (by decide)]
        exact ⟨d :: ds', .cons h h1, rfl⟩
  | [], p :: ps, ds, h, _ => by cases h
  | j :: js, [], ds, h, _ => by cases h
end
section
variable {X : Cx} {pins : List (Addr × Obj)} {σ : St} {H : Hp} {s : Shared} {a : Addr} {y v : V} {u r : Value} {d e k : D} {n : Bool} {kvs : List (D × D)} {A : Around} {E : Value → Shared → Prop}
theorem paired_app {α β : Type} {R : α → β → Prop} : ∀ {l l' : List α} {m m' : List β}, Paired R l m → Paired R l' m' → Paired R (l ++ l') (m ++ m')
  | [], _, [], _, .nil, t => t
  | _ :: _, _, _ :: _, _, .cons h t, q => .cons h (paired_app t q)
theorem paired_len {α β : Type} {R : α → β → Prop} {l : List α} {m : List β} (h : Paired R l m) : l.length = m.length := Paired.length h
theorem nd_ok {w : World} {P : Program} {H' : Hp} {h' : Heap} {kks : List NestedKey} {kvs : List (V × V)} {xs : List (NestedKey × Addr × Value)} (z : kvs.length ≤ sizeLine) (hd : (a == sysModules) = false) (e : xs.map (·.1) = kks) (p : Paired NPair kvs xs)
    (dd : h'.DictOfH (nestedKind P w) a xs) : ObjOk P w H' h' a (NdO w a kks kvs) := by
  obtain ⟨o, es, ep, h1, h2, h3, h4, _, nd⟩ := dd
  refine ⟨⟨z, hd, by rw [← e]; exact nd, xs, e, p, o, es, ep, h1, h2, h3, h4⟩, ⟨o, h1⟩, fun g1 g2 q k => ?_⟩
  obtain ⟨q1, q2, q3, ys, q4, q5, o', es', ep', q6, q7⟩ := q
  exact ⟨q1, q2, q3, ys, q4, q5, o', es', ep', k _ q6, q7⟩
theorem da_set {Q : Unit → Shared → Prop} (hu : A.units + 64 < cLine) (I : Inv X pins σ H s) (g : OwnAt X.F H a (mkO n kvs)) (hk : Rep X.F H y k) (kg : kGood n k = true) (ry : RelV y u) (rv : RelV v r) (hv : Rep X.F H v e) (hl : kvs.length < sizeLine)
    (h : ∀ ho s', Inv X pins σ (upd H a ho) s' → (Kp H (upd H a ho) → OwnAt X.F (upd H a ho) a (mkO n (dput kvs k e))) → Q () s') : wpAny (model X.prog X.w) A (setItem (.ref a) u r) Q E s := by
  cases n with
  | false =>
    obtain ⟨kv0, es, h1, h2, rfl⟩ := g
    obtain ⟨key, rfl, rfl⟩ := good_k kg hk
    have hlen : es.length = kv0.length := by rw [← h2.len, List.length_map]
    have hl' : kv0.length < sizeLine := by
      rw [List.length_zip, List.length_map] at hl
      omega
    obtain ⟨ds', p1, p2⟩ := put_k (k := key) hv h2
    refine d_setItem (by omega) I (DPut.k h1 hl') ry rv fun s' I' => h _ s' I' fun kp => ?_
    rw [p2]
    exact ⟨_, ds', upd_same, p1.kp kp, rfl⟩
  | true =>
    obtain ⟨kks, kv0, es, h1, h0, h2, h3, rfl⟩ := g
    obtain ⟨kk, b, rfl, rfl, hc⟩ := good_n kg hk
    cases (show u = Value.ref b from ry)
    obtain ⟨z, hd, xs, e1, p, dd⟩ := nd_at I (.inl h1) h0 h2
    have l1 : kv0.length = kks.length := by have := h2.len; rw [List.length_map, List.length_map] at this; exact this
    have l2 : es.length = kks.length := by rw [← h3.len, List.length_map, l1]
    have l3 : kv0.length = xs.length := paired_len p
    have hl' : kv0.length < sizeLine := by
      rw [List.length_zip, List.length_map] at hl
      omega
    refine wpAny_setItem_heap (hsz := by omega) (nroom hu) (rep_key I hk hc) dd fun h' dd' hs => ?_
    obtain ⟨oo, hoo⟩ : ∃ q, h'.get? a = some q := let ⟨q, _, _, hq, _⟩ := dd'; ⟨q, hq⟩
    unfold storedH at dd'
    by_cases c : kk ∈ kks
    · have ca : (atKey xs kk).isSome = true := by
        rw [← e1] at c
        obtain ⟨x, hx, hxe⟩ := List.mem_map.mp c
        unfold atKey
        rw [Option.isSome_map, List.find?_isSome]
        exact ⟨x, hx, decide_eq_true hxe⟩
      rw [if_pos ca] at dd'
      obtain ⟨ds', p1, p2⟩ := put_n (k := kk) hv l1 h3
      have lz : (nrepl kk v kks kv0).length = kv0.length := by have := congrArg List.length (nrepl_fst (k := kk) (v := v) l1); rw [List.length_map, List.length_map] at this; exact this
      have I' : Inv X pins σ (upd H a (NdO X.w a kks (nrepl kk v kks kv0))) { s with heap := h', toks := s.toks + (nestedKind X.prog X.w).draws kk } :=
        d_write I (by rw [h1]; exact True.intro) hs ⟨oo, hoo⟩ (nd_ok (by omega) hd (by rw [keys_map_putAt, e1]) (nrepl_pair rv e1 p) dd')
      refine h _ _ I' fun kp => ?_
      refine ⟨kks, nrepl kk v kks kv0, ds', upd_same, h0, ?_, p1.kp kp, ?_⟩
      · rw [nrepl_fst l1]; exact h2.kp kp
      · unfold dput
        rw [nany l2, if_pos (decide_eq_true c)]
        exact p2
    · have ca : ¬ (atKey xs kk).isSome = true := fun z => by
        unfold atKey at z
        rw [Option.isSome_map, List.find?_isSome] at z
        obtain ⟨x, hx, hxe⟩ := z
        refine c ?_
        rw [← e1]
        exact List.mem_map.mpr ⟨x, hx, of_decide_eq_true hxe⟩
      rw [if_neg ca] at dd'
      have I' : Inv X pins σ (upd H a (NdO X.w a (kks ++ [kk]) (kv0 ++ [(.ref b, v)]))) { s with heap := h', toks := s.toks + (nestedKind X.prog X.w).draws kk } :=
        d_write I (by rw [h1]; exact True.intro) hs ⟨oo, hoo⟩ (nd_ok (by rw [List.length_append]; simp; omega) hd (by rw [List.map_append, e1]; rfl) (paired_app p (.cons ⟨rfl, rv⟩ .nil)) dd')
      refine h _ _ I' fun kp => ?_
      refine ⟨kks ++ [kk], kv0 ++ [(.ref b, v)], es ++ [e], upd_same, ?_, ?_, ?_, ?_⟩
      · rw [List.all_append, h0]
        simp [hc]
      · rw [List.map_append, List.map_append]
        exact (h2.append (.cons hk .nil)).kp kp
      · rw [List.map_append]
        exact (h3.append (.cons hv .nil)).kp kp
      · unfold dput
        rw [nany l2, if_neg (by rw [decide_eq_false c]; decide), List.map_append, List.zip_append (by rw [List.length_map, l2])]
        rfl
end
end Dt

/-! Dt2e: dicts by values: the raw entries. -/
namespace Dt
open PySem PySem.Spec L2
open PyProof.Rows hiding St
section
variable {X : Cx} {pins : List (Addr × Obj)} {σ : St} {H : Hp} {s : Shared} {a : Addr} {n : Bool} {kvs : List (D × D)}
theorem paired_get {α β : Type} {R : α → β → Prop} : ∀ {l : List α} {m : List β} {i : Nat} {x : α} {y : β}, Paired R l m → l[i]? = some x → m[i]? = some y → R x y
  | _ :: _, _ :: _, 0, _, _, .cons h _, e, f => by cases e; cases f; exact h
  | _ :: _, _ :: _, i + 1, _, _, .cons _ t, e, f => paired_get (i := i) t (by simpa using e) (by simpa using f)
theorem kvals {kvs : List (Key × V)} : ∀ {ds : List D}, ds.length = kvs.length → RepAll X.F H (kvs.map fun p => kV p.1) (((kvs.map fun p => keyD p.1).zip ds).map (·.1)) := by
  induction kvs with
  | nil => intro ds _; exact .nil
  | cons p r ih =>
    intro ds h
    cases ds with
    | nil => cases h
    | cons d ds =>
      refine .cons ?_ (ih (Nat.succ.inj h))
      obtain ⟨k, v⟩ := p
      cases k with
      | inl i => exact .int i
      | inr x => exact .str x
theorem kv_get {kvs : List (Key × V)} {vs : List (Key × Value)} (rel : KV kvs vs) {i : Nat} {k : Key} {u : Value} (h : vs[i]? = some (k, u)) : ∃ v, kvs[i]? = some (k, v) ∧ RelV v u := by
  unfold KV at rel
  induction rel generalizing i with
  | nil => cases h
  | @cons p q ps qs h1 t ih =>
    cases i with
    | zero =>
      have h : q = (k, u) := by simpa using h
      subst h
      obtain ⟨k', v'⟩ := p
      obtain ⟨e, r⟩ := h1
      cases e
      exact ⟨v', rfl, r⟩
    | succ i => exact ih (by simpa using h)
/-- the entries as they lie in the heap -/
theorem da_raw (I : Inv X pins σ H s) (g : DAt X.F H a n kvs) : (a == sysModules) = false ∧ ∃ es ep, s.heap.DictRaw a es ep ∧ es.size = kvs.length ∧ es.size ≤ sizeLine ∧
    ∃ ks vs : List V, RepAll X.F H ks (kvs.map (·.1)) ∧ RepAll X.F H vs (kvs.map (·.2)) ∧ ∀ i (hi : i < es.size), ∃ k v, ks[i]? = some k ∧ vs[i]? = some v ∧ RelV k es[i].key ∧ RelV v es[i].val := by
  cases g with
  | @k kv0 ds hr r =>
    obtain ⟨z, hd, vs, rel, dd⟩ := dk_rd I.hok hr
    obtain ⟨es, ep, h1, h2, h3⟩ := dd.raw
    have l1 : ds.length = kv0.length := by rw [← r.len, List.length_map]
    have l2 := rel.length
    refine ⟨hd, es, ep, h1, ?_, by rw [h2, ← l2]; exact z, kv0.map fun p => kV p.1, kv0.map (·.2), kvals l1, ?_, fun i hi => ?_⟩
    · rw [h2, List.length_zip, List.length_map]; omega
    · rw [show ((kv0.map fun p => keyD p.1).zip ds).map (·.2) = ds from List.map_snd_zip (by rw [List.length_map]; omega)]
      exact r
    · have hv : vs[i]? = some (vs[i]'(by omega)) := List.getElem?_eq_getElem (by omega)
      obtain ⟨g1, g2⟩ := h3 i hi _ _ hv
      obtain ⟨v, e1, e2⟩ := kv_get rel hv
      refine ⟨kV vs[i].1, v, by rw [List.getElem?_map, e1]; rfl, by rw [List.getElem?_map, e1]; rfl, ?_, by rw [g2]; exact e2⟩
      generalize vs[i].1 = key at g1
      generalize es[i].key = u at g1
      rcases keyIs_shape g1 with ⟨j, t, rfl, rfl⟩ | ⟨x, t, rfl, rfl⟩
      · exact ⟨t, rfl⟩
      · exact ⟨t, rfl⟩
  | @n kks kv0 ds hr c q r =>
    obtain ⟨z, hd, xs, e1, p, dd⟩ := nd_at I hr c q
    obtain ⟨es, ep, h1, h2, h3⟩ := dd.raw
    have l1 : kv0.length = kks.length := by have := q.len; rw [List.length_map, List.length_map] at this; exact this
    have l2 : ds.length = kks.length := by rw [← r.len, List.length_map, l1]
    have l3 : kv0.length = xs.length := paired_len p
    refine ⟨hd, es, ep, h1, ?_, by omega, kv0.map (·.1), kv0.map (·.2), ?_, ?_, fun i hi => ?_⟩
    · rw [h2, List.length_zip, List.length_map]; omega
    · rw [show ((kks.map NestedKey.data).zip ds).map (·.1) = kks.map NestedKey.data from List.map_fst_zip (by rw [List.length_map]; omega)]
      exact q
    · rw [show ((kks.map NestedKey.data).zip ds).map (·.2) = ds from List.map_snd_zip (by rw [List.length_map]; omega)]
      exact r
    · obtain ⟨y, g1, g2, g3, _⟩ := h3 i hi
      have hv : kv0[i]? = some (kv0[i]'(by omega)) := List.getElem?_eq_getElem (by omega)
      have hp : NPair (kv0[i]'(by omega)) y := paired_get p hv g1
      exact ⟨_, _, by rw [List.getElem?_map, hv]; rfl, by rw [List.getElem?_map, hv]; rfl, by rw [g2]; show RelV (kv0[i]'(by omega)).1 _; rw [hp.1]; rfl, by rw [g3]; exact hp.2⟩
theorem da_len {Q : Value → Shared → Prop} {A : Around} {E : Value → Shared → Prop} (I : Inv X pins σ H s) (g : DAt X.F H a n kvs) (h : ∀ t s', Inv X pins σ H s' → Q (.int kvs.length t) s') : wpAny (model X.prog X.w) A (call (.builtin "len") [.ref a]) Q E s := by
  cases g with
  | @k kv0 ds hr r =>
    have l1 : ds.length = kv0.length := by rw [← r.len, List.length_map]
    rw [List.length_zip, List.length_map, l1, Nat.min_self] at h
    exact d_len I hr h
  | @n kks kv0 ds hr c q r =>
    obtain ⟨z, hd, xs, e1, p, dd⟩ := nd_at I hr c q
    have l1 : kv0.length = kks.length := by have := q.len; rw [List.length_map, List.length_map] at this; exact this
    have l2 : ds.length = kks.length := by rw [← r.len, List.length_map, l1]
    have l3 : kv0.length = xs.length := paired_len p
    rw [List.length_zip, List.length_map, l2, Nat.min_self, ← l1, l3] at h
    exact call_len_dictH hd dd (by rw [sizeLine_eq] at z; omega) (h _ _ (I.tok _))
/-- list(d) -/
theorem vals_nth {vs : List V} {us : List Value} (hl : us.length = vs.length) (h : ∀ (i : Nat) (u : Value), us[i]? = some u → ∃ v, vs[i]? = some v ∧ RelV v u) : Vals vs us := by
  induction vs generalizing us with
  | nil => cases us with
    | nil => exact .nil
    | cons u r => cases hl
  | cons v vs ih => cases us with
    | nil => cases hl
    | cons u us =>
      refine .cons ?_ (ih (Nat.succ.inj hl) fun i w e => h (i + 1) w (by simpa using e))
      obtain ⟨v', h1, h2⟩ := h 0 u rfl
      cases h1
      exact h2
theorem da_list {Q : Value → Shared → Prop} {A : Around} {E : Value → Shared → Prop} (hh : A.handled = none) (I : Inv X pins σ H s) (g : DAt X.F H a n kvs)
    (h : ∀ ks p s', H p = none → RepAll X.F H ks (kvs.map (·.1)) → Inv X pins σ (upd H p (.lst ks)) s' → Q (.ref p) s') : wpAny (model X.prog X.w) A (call (.type "list") [.ref a]) Q E s := by
  obtain ⟨lo, es, ep, hraw, hsz, hsl, ks, _, rk, _, hks⟩ := da_raw I g
  refine PySem.W.kdl_call (KdlSrc.rawDict lo) hh hraw hsl fun h' tk acc c hk hg hacc => ?_
  have hlk : ks.length = kvs.length := by rw [rk.len, List.length_map]
  have hal : acc.toList.length = ks.length := by rw [Array.length_toList, hacc.1, hsz, hlk]
  have hV : Vals ks acc.toList := vals_nth hal fun j u e => by
    obtain ⟨hi, rfl⟩ := hacc.2 j u (by rw [← Array.getElem?_toList]; exact e)
    obtain ⟨k', v', q1, _, q3, _⟩ := hks j hi
    exact ⟨k', q1, q3⟩
  have hz : ks.length ≤ sizeLine := by rw [hlk, ← hsz]; exact hsl
  exact h ks _ _ I.fresh rk (I.laid (t' := tk) hk (Nat.le_refl _) ⟨hz, acc.toList, c, hV, by simpa using hg⟩)
/-- a dict's item, by values -/
theorem ixd_of {P : Program} {w : World} {A : Around} {E : Value → Shared → Prop} {s : Shared} {value slice : Expr} {T id : String} {o i : Value} {Q : Value → Shared → Prop} (hT : s.TypeIs o T)
    (hl : typeLookup (.type T) "__getitem__" = pure (some (.builtin id))) (hs : subscripted slice false o i = operate [o, i] (getItem o i)) (h : wpAny (model P w) A (getItem o i) Q E s) : wpAny (model P w) A (subscriptTail value slice o i) Q E s := by
  unfold subscriptTail
  refine wpAny_bind ?_
  rw [getitemInPython_of_ne hT.not_modules]
  refine wpAny_bind (wpAny_specialOf hT hl ?_)
  have fin : wpAny (model P w) A (subscripted slice false o i) (fun r s₃ => wpAny (model P w) A (letTemporaryGo value o r >>= fun _ => pure r) Q E s₃) E s := by
    rw [hs]
    exact wpAny_operating (wpAny_mono h (fun r s₃ h₃ => wpAny_bind (wpAny_letTemporaryGo (wpAny_pure h₃))) fun _ _ x => x)
  first
    | exact wpAny_pure (wpAny_bind fin)
    | exact wpAny_bind (wpAny_pure (wpAny_bind fin))
    | exact wpAny_bind fin
theorem da_type (I : Inv X pins σ H s) (g : DAt X.F H a n kvs) : s.TypeIs (.ref a) "dict" := by
  obtain ⟨_, es, ep, h, _⟩ := da_raw I g
  exact h.typeIs
end
end Dt

/-! Dt3: comparisons, in, items, slices, built-in calls, by data. -/
namespace Dt
open PySem PySem.Spec L2
open PyProof.Rows hiding St
open PySem.W (alike alikeAll dataLt)
section
variable {X : Cx}
/-! ### == != -/
def cmpOk (d e : D) : Bool := d.plain && e.plain && decide (min d.depth e.depth ≤ 60)
theorem cmpOk_of {d e : D} (h : cmpOk d e = true) : d.plain = true ∧ e.plain = true ∧ min d.depth e.depth ≤ 60 := by
  unfold cmpOk at h
  simp only [Bool.and_eq_true, decide_eq_true_eq] at h
  exact ⟨h.1.1, h.1.2, h.2⟩
def dEq : D → D → Option D
  | .int i, .int j => some (.bool (i == j))
  | .str x, .str y => some (.bool (x == y))
  | d, e => if cmpOk d e = true then some (.bool (PyData.eqv d e)) else none
def dNe : D → D → Option D
  | .int i, .int j => some (.bool (!(i == j)))
  | .str x, .str y => some (.bool (!(x == y)))
  | d, e => if cmpOk d e = true then some (.bool (!PyData.eqv d e)) else none
theorem dEq_some {d e z : D} (h : dEq d e = some z) : cmpOk d e = true ∧ z = .bool (PyData.eqv d e) := by
  unfold dEq at h
  split at h
  · cases h; exact ⟨by simp [cmpOk, PyData.plain, PyData.depth], by simp [PyData.eqv]⟩
  · cases h; exact ⟨by simp [cmpOk, PyData.plain, PyData.depth], by simp [PyData.eqv]⟩
  · split at h
    · rename_i hc; cases h; exact ⟨hc, rfl⟩
    · cases h
theorem dNe_some {d e z : D} (h : dNe d e = some z) : cmpOk d e = true ∧ z = .bool (!PyData.eqv d e) := by
  unfold dNe at h
  split at h
  · cases h; exact ⟨by simp [cmpOk, PyData.plain, PyData.depth], by simp [PyData.eqv]⟩
  · cases h; exact ⟨by simp [cmpOk, PyData.plain, PyData.depth], by simp [PyData.eqv]⟩
  · split at h
    · rename_i hc; cases h; exact ⟨hc, rfl⟩
    · cases h
theorem opEq (hu : X.A.units + 64 < cLine) : OpR X (compareOp .Eq) (rD X.F dEq) := by
  intro pins s σ H x y v u Q I rx ry ⟨d, e, z, hd, he, hz, k⟩
  obtain ⟨hc, rfl⟩ := dEq_some hz
  obtain ⟨h1, h2, h3⟩ := cmpOk_of hc
  obtain ⟨as, r1⟩ := hd.reads I h1 rx
  obtain ⟨bs, r2⟩ := he.reads I h2 ry
  exact SeqAt.eq_plain r1 r2 h1 h2 (by omega) ⟨.bl _, H, I, rfl, k _ _ (Same.refl H) (.bl _)⟩
theorem opNe (hu : X.A.units + 64 < cLine) : OpR X (compareOp .NotEq) (rD X.F dNe) := by
  intro pins s σ H x y v u Q I rx ry ⟨d, e, z, hd, he, hz, k⟩
  obtain ⟨hc, rfl⟩ := dNe_some hz
  obtain ⟨h1, h2, h3⟩ := cmpOk_of hc
  obtain ⟨as, r1⟩ := hd.reads I h1 rx
  obtain ⟨bs, r2⟩ := he.reads I h2 ry
  exact SeqAt.ne_plain r1 r2 h1 h2 (by omega) ⟨.bl _, H, I, rfl, k _ _ (Same.refl H) (.bl _)⟩
/-! ### < <= > >= -/
def ordOk (d e : D) : Bool := d.plain && e.plain && alike d e && decide (min d.depth e.depth ≤ 60) && (match d with | .none => false | _ => true)
theorem ordOk_of {d e : D} (h : ordOk d e = true) : d.plain = true ∧ e.plain = true ∧ alike d e = true ∧ min d.depth e.depth ≤ 60 ∧ d ≠ .none := by
  unfold ordOk at h
  simp only [Bool.and_eq_true, decide_eq_true_eq] at h
  exact ⟨h.1.1.1.1, h.1.1.1.2, h.1.1.2, h.1.2, fun e => by have := h.2; rw [e] at this; cases this⟩
def dLt : D → D → Option D
  | .int i, .int j => some (.bool (decide (i < j)))
  | .str x, .str y => some (.bool (decide (x.cps.toList < y.cps.toList)))
  | d, e => if ordOk d e = true then some (.bool (dataLt d e)) else none
def dLe : D → D → Option D
  | .int i, .int j => some (.bool (decide (i ≤ j)))
  | .str x, .str y => some (.bool (!decide (y.cps.toList < x.cps.toList)))
  | d, e => if ordOk d e = true then some (.bool (!dataLt e d)) else none
def dGt : D → D → Option D
  | .int i, .int j => some (.bool (decide (j < i)))
  | .str x, .str y => some (.bool (decide (y.cps.toList < x.cps.toList)))
  | d, e => if ordOk d e = true then some (.bool (dataLt e d)) else none
def dGe : D → D → Option D
  | .int i, .int j => some (.bool (decide (j ≤ i)))
  | d, e => if ordOk d e = true then some (.bool (!dataLt d e)) else none
theorem opLt (hu : X.A.units + 64 < cLine) : OpR X (compareOp .Lt) (rD X.F dLt) := by
  intro pins s σ H x y v u Q I rx ry ⟨d, e, z, hd, he, hz, k⟩
  unfold dLt at hz
  split at hz
  · cases hz
    obtain rfl := hd.intv
    obtain rfl := he.intv
    exact op_lt pins s σ H _ _ _ _ Q I rx ry ⟨_, _, rfl, rfl, k _ _ (Same.refl H) (.bl _)⟩
  · cases hz
    obtain rfl := hd.strv
    obtain rfl := he.strv
    exact op_lt_str pins s σ H _ _ _ _ Q I rx ry ⟨_, _, rfl, rfl, k _ _ (Same.refl H) (.bl _)⟩
  · split at hz
    · rename_i hc
      cases hz
      obtain ⟨h1, h2, h3, h4, h5⟩ := ordOk_of hc
      obtain ⟨as, r1⟩ := hd.reads I h1 rx
      obtain ⟨bs, r2⟩ := he.reads I h2 ry
      exact PySem.W.rcLt_alike d e X.A s v u as bs r1 r2 h3 h5 (by omega) _ _ _ _ ⟨.bl _, H, I, rfl, k _ _ (Same.refl H) (.bl _)⟩
    · cases hz
theorem opLe (hu : X.A.units + 64 < cLine) : OpR X (compareOp .LtE) (rD X.F dLe) := by
  intro pins s σ H x y v u Q I rx ry ⟨d, e, z, hd, he, hz, k⟩
  unfold dLe at hz
  split at hz
  · cases hz
    obtain rfl := hd.intv
    obtain rfl := he.intv
    exact op_le pins s σ H _ _ _ _ Q I rx ry ⟨_, _, rfl, rfl, k _ _ (Same.refl H) (.bl _)⟩
  · cases hz
    obtain rfl := hd.strv
    obtain rfl := he.strv
    exact op_le_str pins s σ H _ _ _ _ Q I rx ry ⟨_, _, rfl, rfl, k _ _ (Same.refl H) (.bl _)⟩
  · split at hz
    · rename_i hc
      cases hz
      obtain ⟨h1, h2, h3, h4, h5⟩ := ordOk_of hc
      obtain ⟨as, r1⟩ := hd.reads I h1 rx
      obtain ⟨bs, r2⟩ := he.reads I h2 ry
      exact PySem.W.rcLe_alike d e X.A s v u as bs r1 r2 h3 h5 (by omega) _ _ _ _ ⟨.bl _, H, I, rfl, k _ _ (Same.refl H) (.bl _)⟩
    · cases hz
theorem opGt (hu : X.A.units + 64 < cLine) : OpR X (compareOp .Gt) (rD X.F dGt) := by
  intro pins s σ H x y v u Q I rx ry ⟨d, e, z, hd, he, hz, k⟩
  unfold dGt at hz
  split at hz
  · cases hz
    obtain rfl := hd.intv
    obtain rfl := he.intv
    exact op_gt pins s σ H _ _ _ _ Q I rx ry ⟨_, _, rfl, rfl, k _ _ (Same.refl H) (.bl _)⟩
  · cases hz
    obtain rfl := hd.strv
    obtain rfl := he.strv
    exact op_gt_str pins s σ H _ _ _ _ Q I rx ry ⟨_, _, rfl, rfl, k _ _ (Same.refl H) (.bl _)⟩
  · split at hz
    · rename_i hc
      cases hz
      obtain ⟨h1, h2, h3, h4, h5⟩ := ordOk_of hc
      obtain ⟨as, r1⟩ := hd.reads I h1 rx
      obtain ⟨bs, r2⟩ := he.reads I h2 ry
      exact PySem.W.rcGt_alike d e X.A s v u as bs r1 r2 h3 h5 (by omega) _ _ _ _ ⟨.bl _, H, I, rfl, k _ _ (Same.refl H) (.bl _)⟩
    · cases hz
theorem opGe (hu : X.A.units + 64 < cLine) : OpR X (compareOp .GtE) (rD X.F dGe) := by
  intro pins s σ H x y v u Q I rx ry ⟨d, e, z, hd, he, hz, k⟩
  unfold dGe at hz
  split at hz
  · cases hz
    obtain rfl := hd.intv
    obtain rfl := he.intv
    exact op_ge pins s σ H _ _ _ _ Q I rx ry ⟨_, _, rfl, rfl, k _ _ (Same.refl H) (.bl _)⟩
  · split at hz
    · rename_i hc
      cases hz
      obtain ⟨h1, h2, h3, h4, h5⟩ := ordOk_of hc
      obtain ⟨as, r1⟩ := hd.reads I h1 rx
      obtain ⟨bs, r2⟩ := he.reads I h2 ry
      exact PySem.W.rcGe_alike d e X.A s v u as bs r1 r2 h3 h5 (by omega) _ _ _ _ ⟨.bl _, H, I, rfl, k _ _ (Same.refl H) (.bl _)⟩
    · cases hz
/-! ### is None -/
def isNn : D → Bool
  | .none => true
  | _ => false
def dIsN (d e : D) : Option D := match e with
  | .none => some (.bool (isNn d))
  | _ => none
def dNotN (d e : D) : Option D := match e with
  | .none => some (.bool (!isNn d))
  | _ => none
theorem isN_of {K : Fg} {H : Hp} {v : V} {d : D} (h : Rep K H v d) : decide (v = .non) = isNn d := by
  cases h <;> simp [isNn, ndD, insD, fnD]
theorem opIsN : OpR X (compareOp .Is) (rD X.F dIsN) := by
  intro pins s σ H x y v u Q I rx ry ⟨d, e, z, hd, he, hz, k⟩
  unfold dIsN at hz
  split at hz
  · cases hz
    obtain rfl := he.nonv
    exact op_isN pins s σ H _ _ _ _ Q I rx ry ⟨rfl, k _ _ (Same.refl H) (by rw [isN_of hd]; exact .bl _)⟩
  · cases hz
theorem opNotN : OpR X (compareOp .IsNot) (rD X.F dNotN) := by
  intro pins s σ H x y v u Q I rx ry ⟨d, e, z, hd, he, hz, k⟩
  unfold dNotN at hz
  split at hz
  · cases hz
    obtain rfl := he.nonv
    refine op_notN pins s σ H _ _ _ _ Q I rx ry ⟨rfl, k _ _ (Same.refl H) ?_⟩
    rw [isN_of hd]
    exact .bl _
  · cases hz
/-! ### in -/
def inB (d : D) : D → Option Bool
  | .list ds => if d.plain = true ∧ PyData.plainAll ds = true ∧ min (PyData.depthAll ds) d.depth ≤ 60 then some (ds.any fun y => PyData.eqv y d) else none
  | .tuple ds => if d.plain = true ∧ PyData.plainAll ds = true ∧ min (PyData.depthAll ds) d.depth ≤ 60 then some (ds.any fun y => PyData.eqv y d) else none
  | .str z => match d with
    | .str x => match x.cps.toList with
      | [c] => some (decide (c ∈ z.cps.toList))
      | _ => none
    | _ => none
  | e => match kvsOf e with
    | some (n, kvs) => if kGood n d = true then some (look kvs d).isSome else none
    | none => none
def dIn (d e : D) : Option D := (inB d e).map .bool
def dNin (d e : D) : Option D := (inB d e).map fun b => .bool (!b)
theorem str_one {x : Str} {c : Nat} (h : x.cps.toList = [c]) : x = ⟨#[c]⟩ := by
  obtain ⟨a⟩ := x
  congr 1
  exact Array.ext' h
theorem opIn (hu : X.A.units + 64 < cLine) : OpR X (compareOp .In) (rD X.F dIn) := by
  intro pins s σ H x y v u Q I rx ry ⟨d, e, z, hd, he, hz, k⟩
  obtain ⟨b, hb, rfl⟩ := Option.map_eq_some_iff.mp hz
  unfold inB at hb
  split at hb
  · split at hb
    · rename_i ds hc
      cases hb
      obtain ⟨as, r1⟩ := hd.reads I hc.1 rx
      obtain ⟨bs, r2⟩ := he.reads I (by rw [PyData.plain]; exact hc.2.1) ry
      exact SeqAt.in_list_data r2 r1 hc.2.1 hc.1 (by omega) ⟨.bl _, H, I, rfl, k _ _ (Same.refl H) (.bl _)⟩
    · cases hb
  · split at hb
    · rename_i ds hc
      cases hb
      obtain ⟨as, r1⟩ := hd.reads I hc.1 rx
      obtain ⟨bs, r2⟩ := he.reads I (by rw [PyData.plain]; exact hc.2.1) ry
      exact SeqAt.in_tuple_data r2 r1 hc.2.1 hc.1 (by omega) ⟨.bl _, H, I, rfl, k _ _ (Same.refl H) (.bl _)⟩
    · cases hb
  · split at hb
    · split at hb
      · rename_i h1
        cases hb
        obtain rfl := hd.strv
        obtain rfl := he.strv
        exact op_in_sign pins s σ H _ _ _ _ Q I rx ry ⟨_, _, by rw [str_one h1], rfl, k _ _ (Same.refl H) (.bl _)⟩
      · cases hb
    · cases hb
  · split at hb
    · rename_i n kvs he'
      split at hb
      · rename_i hg
        cases hb
        obtain ⟨a, rfl, g⟩ := he.dat he'
        cases (show u = Value.ref a from ry)
        exact da_in hu I g hd hg rx fun s' I' => ⟨.bl _, H, I', rfl, k _ _ (Same.refl H) (.bl _)⟩
      · cases hb
    · cases hb
theorem opNin (hu : X.A.units + 64 < cLine) : OpR X (compareOp .NotIn) (rD X.F dNin) := by
  intro pins s σ H x y v u Q I rx ry ⟨d, e, z, hd, he, hz, k⟩
  obtain ⟨b, hb, rfl⟩ := Option.map_eq_some_iff.mp hz
  unfold inB at hb
  split at hb
  · split at hb
    · rename_i ds hc
      cases hb
      obtain ⟨as, r1⟩ := hd.reads I hc.1 rx
      obtain ⟨bs, r2⟩ := he.reads I (by rw [PyData.plain]; exact hc.2.1) ry
      exact SeqAt.notIn_list_data r2 r1 hc.2.1 hc.1 (by omega) ⟨.bl _, H, I, rfl, k _ _ (Same.refl H) (.bl _)⟩
    · cases hb
  · split at hb
    · rename_i ds hc
      cases hb
      obtain ⟨as, r1⟩ := hd.reads I hc.1 rx
      obtain ⟨bs, r2⟩ := he.reads I (by rw [PyData.plain]; exact hc.2.1) ry
      exact SeqAt.notIn_tuple_data r2 r1 hc.2.1 hc.1 (by omega) ⟨.bl _, H, I, rfl, k _ _ (Same.refl H) (.bl _)⟩
    · cases hb
  · split at hb
    · split at hb
      · rename_i h1
        cases hb
        obtain rfl := hd.strv
        obtain rfl := he.strv
        exact op_notIn_sign pins s σ H _ _ _ _ Q I rx ry ⟨_, _, by rw [str_one h1], rfl, k _ _ (Same.refl H) (.bl _)⟩
      · cases hb
    · cases hb
  · split at hb
    · rename_i n kvs he'
      split at hb
      · rename_i hg
        cases hb
        obtain ⟨a, rfl, g⟩ := he.dat he'
        cases (show u = Value.ref a from ry)
        exact da_notIn hu I g hd hg rx fun s' I' => ⟨.bl _, H, I', rfl, k _ _ (Same.refl H) (.bl _)⟩
      · cases hb
    · cases hb
/-! ### items, slices -/
def dIx : D → D → Option D
  | .list ds, .int i => atI ds i
  | .tuple ds, .int i => atI ds i
  | .str z, .int i => if z.length ≤ sizeLine then (atI z.cps.toList i).map fun c => .str ⟨#[c]⟩ else none
  | e, k => match kvsOf e with
    | some (n, kvs) => if kGood n k = true then look kvs k else none
    | none => none
theorem RepAll.atI {K : Fg} {H : Hp} {vs : List V} {ds : List D} {i : Int} {d : D} (h : RepAll K H vs ds) (e : L2.atI ds i = some d) : ∃ v, L2.atI vs i = some v ∧ Rep K H v d := by
  unfold L2.atI at *
  rw [h.len]
  cases hj : ixN ds.length i with
  | none => rw [hj] at e; cases e
  | some j =>
    rw [hj] at e
    obtain ⟨v, h1, h2⟩ := h.get (i := j) (d := d) e
    exact ⟨v, h1, h2⟩
theorem ixD (hu : X.A.units + 64 < cLine) : IxR X (rD X.F dIx) := by
  intro a b pins s σ H x y v u Q I rx ry ⟨d, e, z, hd, he, hz, k⟩ hs
  unfold dIx at hz
  split at hz
  · obtain ⟨p, xs, rfl, h1, r1⟩ := hd.lstv
    obtain rfl := he.intv
    obtain ⟨w, e1, r2⟩ := r1.atI hz
    exact ix_list a b pins s σ H _ _ v u Q I rx ry ⟨p, xs, _, w, rfl, rfl, h1.sq, e1, k _ _ (Same.refl H) r2⟩ hs
  · obtain ⟨p, xs, rfl, h1, r1⟩ := hd.tupv
    obtain rfl := he.intv
    obtain ⟨w, e1, r2⟩ := r1.atI hz
    exact ix_tup a b pins s σ H _ _ v u Q I rx ry ⟨p, xs, _, w, rfl, rfl, h1, e1, k _ _ (Same.refl H) r2⟩ hs
  · split at hz
    · rename_i hl
      obtain ⟨c, hc, rfl⟩ := Option.map_eq_some_iff.mp hz
      obtain rfl := hd.strv
      obtain rfl := he.intv
      exact ix_str a b pins s σ H _ _ v u Q I rx ry ⟨_, _, c, rfl, rfl, hl, hc, k _ _ (Same.refl H) (.str _)⟩ hs
    · cases hz
  · split at hz
    · rename_i n kvs he'
      split at hz
      · rename_i hg
        obtain ⟨p, rfl, g⟩ := hd.dat he'
        cases (show v = Value.ref p from rx)
        exact ixd_of (da_type I g) PySem.F.slot_dict_getitem.lookup hs (da_getItem hu I g he hg ry hz fun v w s' I' r' h' => ⟨v, H, I', r', k _ _ (Same.refl H) h'⟩)
      · cases hz
    · cases hz
def cutD (xs : List D) (lo hi : Option Int) : List D := (xs.drop (HT.sIx xs.length 0 lo)).take (HT.sIx xs.length xs.length hi - HT.sIx xs.length 0 lo)
def dSl (d : D) (lo hi : Option Int) : Option D := match d with
  | .list ds => some (.list (cutD ds lo hi))
  | .tuple ds => some (.tuple (cutD ds lo hi))
  | .str z => if z.length ≤ sizeLine then some (.str (cutS z lo hi)) else none
  | _ => none
theorem RepAll.cut {K : Fg} {H : Hp} {vs : List V} {ds : List D} (h : RepAll K H vs ds) (lo hi : Option Int) : RepAll K H (cutV vs lo hi) (cutD ds lo hi) := by
  unfold cutV cutD
  rw [h.len]
  exact (h.drop _).take _
def sD (K : Fg) (g : D → Option Int → Option Int → Option D) : V → Option Int → Option Int → Hp → VK → Prop := fun x lo hi H Q => ∃ d z, Rep K H x d ∧ g d lo hi = some z ∧ ∀ v H', Same H H' → Rep K H' v z → Q v H'
theorem slD : SlR X (sD X.F dSl) := by
  intro pins s σ H x v vl vu lo hi sl Q I rx hsl pl pu ⟨d, z, hd, hz, k⟩
  unfold dSl at hz
  split at hz
  · cases hz
    obtain ⟨a, xs, rfl, h1, r1⟩ := hd.lstv
    obtain ⟨T, id, h1, h2, h3⟩ := sl_list pins s σ H _ v vl vu lo hi sl (fun v H' => ∃ p, v = .ref p ∧ H p = none ∧ Same H H' ∧ OwnAt X.F H' p (.lst _)) I rx hsl pl pu ⟨a, xs, rfl, h1.sq, fun p hp => ⟨p, rfl, hp, same_new hp, _, upd_same, (r1.cut lo hi).kp (.same (same_new hp))⟩⟩
    exact ⟨T, id, h1, h2, thn h3 fun _ _ q => ep_fz q k⟩
  · rename_i ds
    cases hz
    obtain ⟨a, xs, rfl, h1, r1⟩ := hd.tupv
    refine sl_tupA pins s σ H _ v vl vu lo hi sl Q I rx hsl pl pu ⟨a, xs, rfl, h1, fun e => ?_, fun e p hp => k _ _ (same_new hp) (.tup (.of upd_same) ((r1.cut lo hi).kp (.same (same_new hp))))⟩
    have e2 : cutD ds lo hi = ds := by
      unfold cutD
      rw [← r1.len, e.1, e.2]
      simp only [List.drop_zero, Nat.sub_zero]
      exact List.take_of_length_le (Nat.le_of_eq r1.len.symm)
    rw [e2] at k
    exact k _ _ (Same.refl H) hd
  · split at hz
    · rename_i hl
      cases hz
      obtain rfl := hd.strv
      exact sl_str pins s σ H _ v vl vu lo hi sl Q I rx hsl pl pu ⟨_, rfl, hl, k _ _ (Same.refl H) (.str _)⟩
    · cases hz
  · cases hz
end
end Dt

/-! Dt4: statements, loops, the call of a def. -/
namespace Dt
open PySem PySem.Spec L2
open PyProof.Rows hiding St
section
variable {X : Cx}
/-! ### blocks, if, return -/
def sNil : FS := fun ss => .nx ss
def Out.then (r : Out) (g : SS → Out) : Out := match r with
  | .nx ss => g ss
  | r => r
def sSeq (a b : FS) : FS := fun ss => (a ss).then b
/-- what is wanted at an end -/
def Post (K : Fg) (fx : Fx) (E : Ends) (H : Hp) : Out → Prop
  | .no => False
  | .nx ss' => ∀ σ' H', Kp H H' → FR K fx ss' σ' H' → E.nx σ' H'
  | .rt r ss' => ∀ v σ' H', Kp H H' → FR K fx ss' σ' H' → RetR K fx ss' σ' H' v r → E.rt v H'
  | .bk ss' => ∀ σ' H', Kp H H' → FR K fx ss' σ' H' → E.bk σ' H'
  | .ct ss' => ∀ σ' H', Kp H H' → FR K fx ss' σ' H' → E.ct σ' H'
theorem tS_iff {K : Fg} {f : FS} {E : Ends} {σ : St} {H : Hp} : tS K f E σ H ↔ ∃ fx ss, FR K fx ss σ H ∧ Post K fx E H (f ss) := by
  constructor
  · rintro ⟨fx, ss, a, b⟩
    refine ⟨fx, ss, a, ?_⟩
    cases e : f ss <;> rw [e] at b <;> exact b
  · rintro ⟨fx, ss, a, b⟩
    refine ⟨fx, ss, a, ?_⟩
    cases e : f ss <;> rw [e] at b <;> exact b
theorem Post.kp {K : Fg} {fx : Fx} {E : Ends} {H H' : Hp} {o : Out} (k : Kp H H') (h : Post K fx E H o) : Post K fx E H' o := by
  cases o with
  | no => exact h
  | nx ss => exact fun σ' H2 k2 f => h σ' H2 (k.trans k2) f
  | rt r ss => exact fun v σ' H2 k2 f => h v σ' H2 (k.trans k2) f
  | bk ss => exact fun σ' H2 k2 f => h σ' H2 (k.trans k2) f
  | ct ss => exact fun σ' H2 k2 f => h σ' H2 (k.trans k2) f
theorem bn : PSs X [] (tS X.F sNil) := by
  refine pss_nil.imp fun E σ H q => ?_
  obtain ⟨fx, ss, f, k⟩ := q
  exact k σ H (Kp.refl H) f
variable {st : Stmt} {rest : List Stmt} {fa fb : FS}
theorem bc (h1 : PS X st (tS X.F fa)) (h2 : PSs X rest (tS X.F fb)) : PSs X (st :: rest) (tS X.F (sSeq fa fb)) := by
  refine (pss_cons h1 h2).imp fun E σ H q => ?_
  obtain ⟨fx, ss, f, k⟩ := tS_iff.mp q
  refine tS_iff.mpr ⟨fx, ss, f, ?_⟩
  unfold sSeq Out.then at k
  cases e : fa ss with
  | no => rw [e] at k; exact k
  | nx s1 => rw [e] at k; exact fun σ' H' k1 f1 => tS_iff.mpr ⟨fx, s1, f1, k.kp k1⟩
  | rt r s1 => rw [e] at k; exact k
  | bk s1 => rw [e] at k; exact k
  | ct s1 => rw [e] at k; exact k
theorem b1 (h1 : PS X st (tS X.F fa)) : PSs X [st] (tS X.F fa) := pss_one h1
variable {a b c : Expr} {pos : Pos} {f g : FE} {fn : FN} {fc : FB}
def sIf (c : FB) (a b : FS) : FS := fun ss => match c ss with
  | .ok x s1 => if x = true then a s1 else b s1
  | .no => .no
theorem sif {u w : List Stmt} (hc : PT X c (tT X.F fc)) (ha : PSs X u (tS X.F fa)) (hb : PSs X w (tS X.F fb)) : PS X (.If c u w pos) (tS X.F (sIf fc fa fb)) := by
  refine (ps_if hc ha hb).imp fun E σ H q => ?_
  obtain ⟨fx, ss, f, k⟩ := tS_iff.mp q
  unfold sIf at k
  cases e : fc ss with
  | no => rw [e] at k; exact k.elim
  | ok x s1 =>
    rw [e] at k
    refine ⟨fx, ss, x, s1, f, e, fun H1 k1 f1 => ?_⟩
    show if x = true then _ else _
    by_cases hx : x = true
    · rw [if_pos hx]
      simp only [if_pos hx] at k
      exact tS_iff.mpr ⟨fx, s1, f1, k.kp k1⟩
    · rw [if_neg hx]
      simp only [if_neg hx] at k
      exact tS_iff.mpr ⟨fx, s1, f1, k.kp k1⟩
def sRet (f : FE) : FS := fun ss => match f ss with
  | .ok d s1 => .rt (.imm d) s1
  | .no => .no
def sRetN (f : FN) : FS := fun ss => match f ss with
  | .ok d s1 => .rt (.own d) s1
  | .no => .no
theorem sret (h : PE X a (tD X.F f)) : PS X (.Return (some a) pos) (tS X.F (sRet f)) := by
  refine (ps_ret h).imp fun E σ H q => ?_
  obtain ⟨fx, ss, fr, k⟩ := tS_iff.mp q
  unfold sRet at k
  cases e : f ss with
  | no => rw [e] at k; exact k.elim
  | ok d s1 => rw [e] at k; exact ⟨fx, ss, d, s1, fr, e, fun v H' k1 f1 r => k v σ H' k1 f1 r⟩
theorem sretN (h : PE X a (tN X.F fn)) : PS X (.Return (some a) pos) (tS X.F (sRetN fn)) := by
  refine (ps_ret h).imp fun E σ H q => ?_
  obtain ⟨fx, ss, fr, k⟩ := tS_iff.mp q
  unfold sRetN at k
  cases e : fn ss with
  | no => rw [e] at k; exact k.elim
  | ok d s1 => rw [e] at k; exact ⟨fx, ss, d, s1, fr, e, fun p H' k1 f1 r n => k _ σ H' k1 f1 ⟨p, rfl, r, n⟩⟩
def sRet0 : FS := fun ss => .rt (.imm .none) ss
theorem sret0 : PS X (.Return none pos) (tS X.F sRet0) := by
  refine ps_retN.imp fun E σ H q => ?_
  obtain ⟨fx, ss, fr, k⟩ := q
  exact k _ σ H (Kp.refl H) fr .non
def sExpr (f : FE) : FS := fun ss => match f ss with
  | .ok _ s1 => .nx s1
  | .no => .no
theorem sexpr (h : PE X a (tD X.F f)) (hs : swapsWith a none pos.line X.env = pure false := by rfl) : PS X (.Expr a pos) (tS X.F (sExpr f)) := by
  refine (ps_expr h hs).imp fun E σ H q => ?_
  obtain ⟨fx, ss, fr, k⟩ := tS_iff.mp q
  unfold sExpr at k
  cases e : f ss with
  | no => rw [e] at k; exact k.elim
  | ok d s1 => rw [e] at k; exact ⟨fx, ss, d, s1, fr, e, fun v H' k1 f1 r => k σ H' k1 f1⟩
def sBk : FS := fun ss => .bk ss
def sCt : FS := fun ss => .ct ss
theorem sbk : PS X (.Break pos) (tS X.F sBk) := ps_break.imp fun E σ H ⟨fx, ss, fr, k⟩ => k σ H (Kp.refl H) fr
theorem sct : PS X (.Continue pos) (tS X.F sCt) := ps_continue.imp fun E σ H ⟨fx, ss, fr, k⟩ => k σ H (Kp.refl H) fr
theorem spass : PS X (.Pass pos) (tS X.F sNil) := ps_pass.imp fun E σ H ⟨fx, ss, fr, k⟩ => k σ H (Kp.refl H) fr
/-! ### stores -/
abbrev GF := D → SS → Option SS
/-- a target whose stores touch the slots vs alone -/
def gD (K : Fg) (g : GF) (vs : List Nat) : TG := fun v σ H Q => ∃ fx ss d ss', FR K fx ss σ H ∧ Rep K H v d ∧ g d ss = some ss' ∧ ∀ σ' H', wipe σ' vs = wipe σ vs → Kp H H' → FR K fx ss' σ' H' → Q σ' H'
theorem wipe_get (σ : St) : ∀ (vs : List Nat) (i : Nat), (wipe σ vs)[i]? = if i ∈ vs then (if i < σ.length then some none else none) else σ[i]?
  | [], i => by simp [wipe]
  | v :: vs, i => by
    unfold wipe
    by_cases h : i = v
    · subst h
      rw [List.getElem?_set, if_pos rfl, wipe_length, if_pos List.mem_cons_self]
    · rw [List.getElem?_set_ne (Ne.symm h), wipe_get σ vs i]
      by_cases h2 : i ∈ vs
      · rw [if_pos h2, if_pos (List.mem_cons_of_mem _ h2)]
      · rw [if_neg h2, if_neg (by simp [h, h2])]
theorem wipe_set {σ : St} {vs : List Nat} {i : Nat} {x : Option V} (h : i ∈ vs) : wipe (σ.set i x) vs = wipe σ vs := by
  apply List.ext_getElem?
  intro j
  rw [wipe_get, wipe_get, List.length_set]
  by_cases hj : j ∈ vs
  · rw [if_pos hj, if_pos hj]
  · rw [if_neg hj, if_neg hj, List.getElem?_set_ne (fun e : i = j => hj (by rw [← e]; exact h))]
def gN (i : Nat) : GF := fun d ss => if i < ss.length then some (ss.set i (.imm d)) else none
theorem gn (i : Nat) {vs : List Nat} {x : Str} (hN : X.N.Nodup) (hv : i ∈ vs := by decide) (hi : X.N[i]? = some x := by rfl) (hx : Loc X.env.scope x := by first | exact Or.inl rfl | exact Or.inr rfl) (hf : X.fn x = true ∨ X.env.scope.names.lookup x = some .local := by first | exact .inl rfl | exact .inr rfl | assumption) :
    PG X (.Name x pos) (gD X.F (gN i) vs) := by
  refine ⟨fun pins s σ H v u Q I r q => (pg_name (pos := pos) hN hi hx hf).run pins s σ H v u Q I r ?_⟩
  obtain ⟨fx, ss, d, ss', fr, rp, e, k⟩ := q
  unfold gN at e
  split at e
  · rename_i hl
    cases e
    exact k _ _ (wipe_set hv) (Kp.refl H) (fr.imm hl rp)
  · cases e
/-- several targets, from the left -/
def gsD (K : Fg) (g : List D → SS → Option SS) (ws : List Nat) : TGs := fun vs σ H Q => ∃ fx ss ds ss', FR K fx ss σ H ∧ RepAll K H vs ds ∧ g ds ss = some ss' ∧ ∀ σ' H', wipe σ' ws = wipe σ ws → Kp H H' → FR K fx ss' σ' H' → Q σ' H'
def gNil : List D → SS → Option SS := fun ds ss => match ds with
  | [] => some ss
  | _ => none
def gCons (g : GF) (h : List D → SS → Option SS) : List D → SS → Option SS := fun ds ss => match ds with
  | d :: r => (g d ss).bind (h r)
  | [] => none
variable {ws : List Nat}
theorem gsn : PGs X [] (gsD X.F gNil ws) := by
  refine ⟨fun pins s σ H vs us Q I r q => pgs_nil.run pins s σ H vs us Q I r ?_⟩
  obtain ⟨fx, ss, ds, ss', fr, rp, e, k⟩ := q
  cases ds with
  | nil => cases rp; cases e; exact ⟨rfl, k _ _ rfl (Kp.refl H) fr⟩
  | cons d r => cases e
theorem gsc {e : Expr} {es : List Expr} {g : GF} {h : List D → SS → Option SS} (h1 : PG X e (gD X.F g ws)) (h2 : PGs X es (gsD X.F h ws)) (hs : (assignEach (e :: es) X.env).map (·.2) = assign e X.env :: (assignEach es X.env).map (·.2) := by rfl) : PGs X (e :: es) (gsD X.F (gCons g h) ws) := by
  refine ⟨fun pins s σ H vs us Q I r q => (pgs_cons h1 h2 hs).run pins s σ H vs us Q I r ?_⟩
  obtain ⟨fx, ss, ds, ss', fr, rp, e, k⟩ := q
  cases ds with
  | nil => cases e
  | cons d dr =>
    cases rp with
    | cons rd rr =>
      obtain ⟨s1, e1, e2⟩ := Option.bind_eq_some_iff.mp e
      exact ⟨_, _, rfl, fx, ss, d, s1, fr, rd, e1, fun σ1 H1 w1 k1 f1 => ⟨fx, s1, dr, ss', f1, rr.kp k1, e2, fun σ2 H2 w2 k2 f2 => k σ2 H2 (w2.trans w1) (k1.trans k2) f2⟩⟩
/-- (a, b, ..) = a tuple -/
def gTup (n : Nat) (g : List D → SS → Option SS) : GF := fun d ss => match d with
  | .tuple ds => if ds.length = n then g ds ss else none
  | _ => none
theorem gt {es : List Expr} {k n : Nat} {g : List D → SS → Option SS} (hc : X.calm = true) (h : PGs X es (gsD X.F g ws)) (hn : (assignEach es X.env).length = n := by rfl) (hst : (assignEach es X.env).findIdx? (·.1) = none := by rfl) :
    PG X (.Tuple es k pos) (gD X.F (gTup n g) ws) := by
  refine ⟨fun pins s σ H v u Q I r q => (pg_tup (pos := pos) (k := k) hc h hn hst).run pins s σ H v u Q I r ?_⟩
  obtain ⟨fx, ss, d, ss', fr, rp, e, k⟩ := q
  unfold gTup at e
  split at e
  · split at e
    · rename_i hl
      obtain ⟨a, xs, rfl, h1, r1⟩ := rp.tupv
      exact ⟨a, xs, rfl, h1, r1.len.trans hl, fx, ss, _, ss', fr, r1, e, k⟩
    · cases e
  · cases e
def sAsg (f : FE) (g : GF) : FS := fun ss => match f ss with
  | .ok d s1 => match g d s1 with
    | some s2 => .nx s2
    | none => .no
  | .no => .no
theorem asg_read {σ : St} {H : Hp} {E : Ends} {gg : GF} (q : tS X.F (sAsg f gg) E σ H) : tAsg (tD X.F f) (gD X.F gg ws) E σ H := by
  obtain ⟨fx, ss, fr, k⟩ := tS_iff.mp q
  unfold sAsg at k
  cases e : f ss with
  | no => rw [e] at k; exact k.elim
  | ok d s1 =>
    rw [e] at k
    simp only at k
    cases e2 : gg d s1 with
    | none => rw [e2] at k; exact k.elim
    | some s2 => 
      rw [e2] at k
      exact ⟨fx, ss, d, s1, fr, e, fun v H1 k1 f1 r1 => ⟨fx, s1, d, s2, f1, r1, e2, fun σ2 H2 _ k2 f2 => k σ2 H2 (k1.trans k2) f2⟩⟩
theorem sasg {tg : Expr} {gg : GF} (he : PE X a (tD X.F f)) (hg : PG X tg (gD X.F gg ws)) (hs : swapsWithSole [tg] a pos.line X.env = pure false := by rfl) (hw : swappedStores [tg] a X.env = pure none := by rfl) (h1 : (assignEach [tg] X.env).map (·.2) = [assign tg X.env] := by rfl) : PS X (.Assign [tg] a pos) (tS X.F (sAsg f gg)) :=
  (ps_asg he hg hs hw (h1 := h1)).imp fun E σ H q => asg_read q
/-- x = e, data -/
theorem sset (i : Nat) {x : Str} {pos' : Pos} (hN : X.N.Nodup) (he : PE X a (tD X.F f)) (hi : X.N[i]? = some x := by rfl) (hx : Loc X.env.scope x := by first | exact Or.inl rfl | exact Or.inr rfl) (hs : swapsWith a (some (.Name x pos')) pos.line X.env = pure false := by rfl)
    (hf : X.fn x = true ∨ X.env.scope.names.lookup x = some .local := by first | exact .inl rfl | exact .inr rfl | assumption) : PS X (.Assign [.Name x pos'] a pos) (tS X.F (sAsg f (gN i))) := by
  refine (ps_set hN hi hx he hs hf).imp fun E σ H q => ?_
  obtain ⟨fx, ss, fr, k⟩ := tS_iff.mp q
  unfold sAsg gN at k
  cases e : f ss with
  | no => rw [e] at k; exact k.elim
  | ok d s1 =>
    rw [e] at k
    simp only at k
    by_cases hl : i < s1.length
    · rw [if_pos hl] at k
      exact ⟨fx, ss, d, s1, fr, e, fun v H1 k1 f1 r1 => k _ _ k1 (f1.imm hl r1)⟩
    · rw [if_neg hl] at k; exact k.elim
/-- x = e, an object of one's own -/
def sOwn (f : FN) (i : Nat) : FS := fun ss => match f ss with
  | .ok o s1 => if i < s1.length then .nx (s1.set i (.own o)) else .no
  | .no => .no
theorem own_read {σ : St} {H : Hp} {E : Ends} {i : Nat} (q : tS X.F (sOwn fn i) E σ H) : tAsg (tN X.F fn) (gName i) E σ H := by
  obtain ⟨fx, ss, fr, k⟩ := tS_iff.mp q
  unfold sOwn at k
  cases e : fn ss with
  | no => rw [e] at k; exact k.elim
  | ok d s1 =>
    rw [e] at k
    simp only at k
    by_cases hl : i < s1.length
    · rw [if_pos hl] at k
      exact ⟨fx, ss, d, s1, fr, e, fun p H1 k1 f1 r1 n1 => k _ _ k1 (f1.own hl r1 n1)⟩
    · rw [if_neg hl] at k; exact k.elim
theorem sown (i : Nat) {x : Str} {pos' : Pos} (hN : X.N.Nodup) (he : PE X a (tN X.F fn)) (hi : X.N[i]? = some x := by rfl) (hx : Loc X.env.scope x := by first | exact Or.inl rfl | exact Or.inr rfl) (hs : swapsWith a (some (.Name x pos')) pos.line X.env = pure false := by rfl)
    (hf : X.fn x = true ∨ X.env.scope.names.lookup x = some .local := by first | exact .inl rfl | exact .inr rfl | assumption) : PS X (.Assign [.Name x pos'] a pos) (tS X.F (sOwn fn i)) :=
  (ps_set hN hi hx he hs hf).imp fun E σ H q => own_read q
/-- a store of a new object, by any rule, then locked -/
theorem sfz {i : Nat} (hN : ∀ {σ : St} {s : Shared} {pins : List (Addr × Obj)} {H : Hp}, Inv X pins σ H s → σ.length = X.N.length) (h : PS X st (tAsg (tN X.F fn) (gName i))) : PS X st (tS X.F (sAsg (eFz fn) (gN i))) := by
  refine ⟨fun pins s σ H E I q => ?_⟩
  obtain ⟨fx, ss, fr, k⟩ := tS_iff.mp q
  unfold sAsg gN eFz at k
  cases e : fn ss with
  | no => rw [e] at k; exact k.elim
  | ok o s1 =>
    rw [e] at k
    simp only [Res.bind] at k
    by_cases hl : i < s1.length
    · rw [if_pos hl] at k
      refine thn (h.run pins s σ H { nx := fun σ' H' => ∃ p, σ' = σ.set i (some (.ref p)) ∧ Kp H H' ∧ FR X.F fx s1 σ H' ∧ OwnAt X.F H' p o ∧ NewAt fx s1 σ p, rt := fun _ _ => False, bk := fun _ _ => False, ct := fun _ _ => False } I
        ⟨fx, ss, o, s1, fr, e, fun p H' k1 f1 r1 n1 => ⟨p, rfl, k1, f1, r1, n1⟩⟩) fun fl s2 q => ?_
      cases fl with
      | next =>
        obtain ⟨σ', H', I2, p, rfl, k1, f1, ow, nw⟩ := q
        obtain ⟨w, hw, lw, mw, rp⟩ := ow.loose
        obtain ⟨od, I3⟩ := I2.lock hw mw
        exact ⟨_, _, I3, k _ _ (k1.trans (Kp.upd hw lw)) ((f1.lock nw hw lw).imm hl (rp od))⟩
      | ret u => obtain ⟨_, _, _, _, _, q⟩ := q; exact q.elim
      | brk => obtain ⟨_, _, _, q⟩ := q; exact q.elim
      | cont => obtain ⟨_, _, _, q⟩ := q; exact q.elim
    · rw [if_neg hl] at k; exact k.elim
/-- x += n, ints -/
def sAug (i : Nat) (f : FE) : FS := fun ss => match ss[i]? with
  | some (.imm (.int n)) => match f ss with
    | .ok (.int m) s1 => if i < s1.length then .nx (s1.set i (.imm (.int (n + m)))) else .no
    | _ => .no
  | _ => .no
theorem saug (i : Nat) {x : Str} {pos' : Pos} (hN : X.N.Nodup) (he : PE X a (tD X.F f)) (hi : X.N[i]? = some x := by rfl) (hx : Loc X.env.scope x := by first | exact Or.inl rfl | exact Or.inr rfl)
    (hf : X.fn x = true ∨ X.env.scope.names.lookup x = some .local := by first | exact .inl rfl | exact .inr rfl | assumption) : PS X (.AugAssign (.Name x pos') .Add a pos) (tS X.F (sAug i f)) := by
  refine (ps_aug hN hi hx he ip_add hf).imp fun E σ H q => ?_
  obtain ⟨fx, ss, fr, k⟩ := tS_iff.mp q
  unfold sAug at k
  split at k
  · rename_i n e1
    obtain ⟨v, h1, h2⟩ := fr.slot i _ e1
    obtain rfl := h2.intv
    split at k
    · rename_i m s1 e2
      split at k
      · rename_i hl
        exact ⟨_, h1, fx, ss, _, s1, fr, e2, fun w H1 k1 f1 r1 => ⟨n, m, rfl, r1.intv, k _ _ k1 (f1.imm hl (.int _))⟩⟩
      · exact k.elim
    · exact k.elim
  · exact k.elim
/-! ### loops -/
def sWh (c : FB) (b : FS) : Nat → FS
  | 0 => fun _ => .no
  | n + 1 => fun ss => match c ss with
    | .no => .no
    | .ok false s1 => .nx s1
    | .ok true s1 => match b s1 with
      | .nx s2 => sWh c b n s2
      | .ct s2 => sWh c b n s2
      | .bk s2 => .nx s2
      | .rt r s2 => .rt r s2
      | .no => .no
theorem swh (n : Nat) {body : List Stmt} (hp : PassesOwn (model X.prog X.w) X.A X.env X.xe) (hc : PT X c (tT X.F fc)) (hb : PSs X body (tS X.F fb)) : PS X (.While c body [] pos) (tS X.F (sWh fc fb n)) := by
  refine (ps_while hp hc hb).imp fun E σ H q => ?_
  obtain ⟨fx, ss, fr, k⟩ := tS_iff.mp q
  refine ⟨fun m σ' H' => ∃ ss', FR X.F fx ss' σ' H' ∧ Post X.F fx E H' (sWh fc fb m ss'), ⟨n, ss, fr, k⟩, fun m σ' H' ⟨s0, f0, k0⟩ => ?_⟩
  cases m with
  | zero => exact k0.elim
  | succ m =>
    unfold sWh at k0
    cases e : fc s0 with
    | no => rw [e] at k0; exact k0.elim
    | ok x s1 =>
      rw [e] at k0
      refine ⟨fx, s0, x, s1, f0, e, fun H1 k1 f1 => ?_⟩
      cases x with
      | false => exact iteF (k0 σ' H1 k1 f1)
      | true =>
        refine iteT ⟨fun σ2 H2 => ∃ ss', FR X.F fx ss' σ2 H2 ∧ Post X.F fx E H2 (sWh fc fb m ss'), fun σ2 H2 q => ⟨m, Nat.lt_succ_self m, q⟩, tS_iff.mpr ⟨fx, s1, f1, ?_⟩⟩
        simp only at k0
        cases e2 : fb s1 with
        | no => rw [e2] at k0; exact k0.elim
        | nx s2 => rw [e2] at k0; exact fun σ2 H2 k2 f2 => ⟨s2, f2, k0.kp (k1.trans k2)⟩
        | ct s2 => rw [e2] at k0; exact fun σ2 H2 k2 f2 => ⟨s2, f2, k0.kp (k1.trans k2)⟩
        | bk s2 => rw [e2] at k0; exact fun σ2 H2 k2 f2 => k0 σ2 H2 (k1.trans k2) f2
        | rt r s2 => rw [e2] at k0; exact fun v σ2 H2 k2 f2 => k0 v σ2 H2 (k1.trans k2) f2
/-- the iterator yields the data, whatever happens -/
def Walk (K : Fg) (J : It) (ds : List D) (H : Hp) : Prop :=
  ∀ i H', Kp H H' → (∀ d, ds[i]? = some d → J.go i H' ∧ ∀ x H2, J.yld i H' x H2 → Same H' H2 ∧ Rep K H2 x d) ∧ (ds.length ≤ i → J.stop i H')
def iD (K : Fg) (f : FL) : TI := fun σ H R => ∃ fx ss ds ss', FR K fx ss σ H ∧ f ss = .ok ds ss' ∧ ∀ J H1, Kp H H1 → FR K fx ss' σ H1 → Walk K J ds H1 → R J H1
def loopF (g : GF) (b : FS) : List D → SS → Out
  | [], ss => .nx ss
  | d :: r, ss => match g d ss with
    | none => .no
    | some s1 => match b s1 with
      | .nx s2 => loopF g b r s2
      | .ct s2 => loopF g b r s2
      | .bk s2 => .nx s2
      | .rt r s2 => .rt r s2
      | .no => .no
def sFor (src : FL) (g : GF) (b : FS) : FS := fun ss => match src ss with
  | .ok ds s1 => loopF g b ds s1
  | .no => .no
theorem sfor {tg iter : Expr} {body : List Stmt} {fl : FL} {gg : GF} (hp : PassesOwn (model X.prog X.w) X.A X.env X.xe) (hc : X.calm = true) (hi : PI X tg iter (iD X.F fl)) (hg : PG X tg (gD X.F gg ws)) (hb : PSs X body (tS X.F fb)) (hs : ∀ x, foldedSetIterable iter X.env x = pure x := by intro _; rfl) :
    PS X (.For tg iter body [] pos) (tS X.F (sFor fl gg fb)) := by
  refine (ps_for hp hc hi hg hb hs).imp fun E σ H q => ?_
  obtain ⟨fx, ss, fr, k⟩ := tS_iff.mp q
  unfold sFor at k
  cases e : fl ss with
  | no => rw [e] at k; exact k.elim
  | ok ds s1 =>
    rw [e] at k
    simp only at k
    refine ⟨fx, ss, ds, s1, fr, e, fun J H1 k1 f1 w => ?_⟩
    refine ⟨fun i m σ' H' => m = ds.length - i ∧ i ≤ ds.length ∧ Kp H1 H' ∧ ∃ ss', FR X.F fx ss' σ' H' ∧ Post X.F fx E H' (loopF gg fb (ds.drop i) ss'), ⟨ds.length, by omega, Nat.zero_le _, Kp.refl _, s1, f1, k.kp k1⟩, fun i m σ' H' ⟨em, hle, k2, s2, f2, q2⟩ => ?_⟩
    have wi := w i H' k2
    by_cases hlt : i < ds.length
    · have ed : ds.drop i = ds[i] :: ds.drop (i + 1) := List.drop_eq_getElem_cons hlt
      rw [ed] at q2
      unfold loopF at q2
      obtain ⟨go, yl⟩ := wi.1 ds[i] (List.getElem?_eq_getElem hlt)
      refine .inr ⟨go, fun σ3 H3 => Kp H1 H3 ∧ ∃ ss', FR X.F fx ss' σ3 H3 ∧ Post X.F fx E H3 (loopF gg fb (ds.drop (i + 1)) ss'), fun σ3 H3 ⟨k3, q3⟩ => ⟨ds.length - (i + 1), by omega, rfl, hlt, k3, q3⟩, fun x H3 hy => ?_⟩
      obtain ⟨sm, rp⟩ := yl x H3 hy
      have k23 := k2.trans (.same sm)
      cases e2 : gg ds[i] s2 with
      | none => rw [e2] at q2; exact q2.elim
      | some s3 =>
        rw [e2] at q2
        simp only at q2
        refine ⟨fx, s2, ds[i], s3, f2.same sm, rp, e2, fun σ4 H4 _ k4 f4 => tS_iff.mpr ⟨fx, s3, f4, ?_⟩⟩
        have k24 : Kp H' H4 := (Kp.same sm).trans k4
        cases e3 : fb s3 with
        | no => rw [e3] at q2; exact q2.elim
        | nx s4 => rw [e3] at q2; exact fun σ5 H5 k5 f5 => ⟨(k2.trans k24).trans k5, s4, f5, q2.kp (k24.trans k5)⟩
        | ct s4 => rw [e3] at q2; exact fun σ5 H5 k5 f5 => ⟨(k2.trans k24).trans k5, s4, f5, q2.kp (k24.trans k5)⟩
        | bk s4 => rw [e3] at q2; exact fun σ5 H5 k5 f5 => q2 σ5 H5 (k24.trans k5) f5
        | rt r s4 => rw [e3] at q2; exact fun v σ5 H5 k5 f5 => q2 v σ5 H5 (k24.trans k5) f5
    · have ed : ds.drop i = [] := List.drop_eq_nil_of_le (by omega)
      rw [ed] at q2
      exact .inl ⟨wi.2 (by omega), q2 σ' H' (Kp.refl _) f2⟩
end
end Dt

/-! Dt5: a def's promise by data, its call. -/
namespace Dt
open PySem PySem.Spec L2
open PyProof.Rows hiding St

/-- a def by data: the arguments as they come in; what it hands back, the arguments behind it -/
abbrev FnS := List Sl → Option (Sl × List Sl)
def callF (n : Nat) (b : FS) : FnS := fun args => match b (args ++ List.replicate (n - args.length) .un) with
  | .rt r ss => some (r, ss.take args.length)
  | .nx ss => some (.imm .none, ss.take args.length)
  | _ => none
def ArgOk (K : Fg) (H : Hp) (v : V) : Sl → Prop
  | .imm d => Rep K H v d
  | .bor o => ∃ p, v = .ref p ∧ OwnAt K H p o
  | _ => False
structure ArgsOk (K : Fg) (H : Hp) (args : List Sl) (vs : List V) : Prop where
  len : vs.length = args.length
  each : ∀ (i : Nat) (sl : Sl) (v : V), args[i]? = some sl → vs[i]? = some v → ArgOk K H v sl
  dis : ∀ (i j : Nat) (o u : O) (v : V), args[i]? = some (.bor o) → args[j]? = some (.bor u) → vs[i]? = some v → vs[j]? = some v → i = j
def RetC (K : Fg) (H H' : Hp) (v : V) : Sl → Prop
  | .imm d => Rep K H' v d
  | .own o => ∃ p, v = .ref p ∧ H p = none ∧ OwnAt K H' p o
  | _ => False
structure PostC (K : Fg) (H H' : Hp) (vs : List V) (args args' : List Sl) (r : Sl) (v : V) : Prop where
  kp : Kp H H'
  rest : ∀ (a : Addr) (o : HO), H a = some o → (∀ (i : Nat) (u : O), args[i]? = some (.bor u) → vs[i]? ≠ some (.ref a)) → H' a = some o
  there : ∀ (a : Addr), H' a = none → H a = none
  bor : ∀ (i : Nat) (o u : O) (p : Addr), args[i]? = some (.bor o) → args'[i]? = some (.bor u) → vs[i]? = some (.ref p) → OwnAt K H' p u
  ret : RetC K H H' v r
def spOf (K : Fg) (F : FnS) (m : Nat) : Sp := fun vs H Q _ => vs.length = m ∧ ∃ args r args', ArgsOk K H args vs ∧ F args = some (r, args') ∧ ∀ v H', PostC K H H' vs args args' r v → Q v H'

theorem start_get {N : List Str} {vs : List V} {i : Nat} {v : V} (h : vs[i]? = some v) : (start N vs)[i]? = some (some v) := by
  have hi : i < vs.length := (List.getElem?_eq_some_iff.mp h).1
  unfold L2.start
  rw [List.getElem?_append_left (by simpa using hi), List.getElem?_map, h]
  rfl
/-- the frame at the entry -/
def fxOf (H : Hp) (args : List Sl) (vs : List V) : Fx := ⟨H, fun i => match args[i]?, vs[i]? with
  | some (.bor _), some (.ref p) => some p
  | _, _ => none⟩
theorem fx_some {H : Hp} {args : List Sl} {vs : List V} {i : Nat} {p : Addr} (h : (fxOf H args vs).P i = some p) : ∃ o, args[i]? = some (.bor o) ∧ vs[i]? = some (.ref p) := by
  unfold fxOf at h
  simp only at h
  split at h
  · cases h
    exact ⟨_, by assumption, by assumption⟩
  · cases h
theorem fx_of {H : Hp} {args : List Sl} {vs : List V} {i : Nat} {p : Addr} {o : O} (h1 : args[i]? = some (.bor o)) (h2 : vs[i]? = some (.ref p)) : (fxOf H args vs).P i = some p := by
  unfold fxOf
  simp only [h1, h2]
theorem fr_start {K : Fg} {H : Hp} {args : List Sl} {vs : List V} {N : List Str} (ok : ArgsOk K H args vs) (hN : vs.length ≤ N.length) : FR K (fxOf H args vs) (args ++ List.replicate (N.length - args.length) .un) (start N vs) H := by
  have len := ok.len
  have cases_ : ∀ (i : Nat) (sl : Sl), (args ++ List.replicate (N.length - args.length) Sl.un)[i]? = some sl → (∃ v, args[i]? = some sl ∧ vs[i]? = some v ∧ (start N vs)[i]? = some (some v)) ∨ sl = .un := fun i sl e => by
    by_cases hi : i < args.length
    · rw [List.getElem?_append_left hi] at e
      have hv : vs[i]? = some (vs[i]'(by omega)) := List.getElem?_eq_getElem (by omega)
      exact .inl ⟨_, e, hv, start_get hv⟩
    · rw [List.getElem?_append_right (by omega), List.getElem?_replicate] at e
      split at e
      · exact .inr (Option.some.inj e).symm
      · cases e
  refine ⟨?_, Kp.refl H, fun a o e _ => e, fun a e => e, fun i sl e => ?_, fun i j p si sj oi oj ei ej eoi eoj hi hj => ?_⟩
  · unfold L2.start
    rw [List.length_append, List.length_append, List.length_map, List.length_replicate, List.length_replicate, len]
  · rcases cases_ i sl e with ⟨v, h1, h2, h3⟩ | rfl
    · have q := ok.each i sl v h1 h2
      cases sl with
      | un => trivial
      | imm d => exact ⟨v, h3, q⟩
      | own o => exact q.elim
      | bor o =>
        obtain ⟨p, rfl, ow⟩ := q
        exact ⟨p, h3, ow, fx_of h1 h2⟩
    · trivial
  · rcases cases_ i si ei with ⟨v, h1, h2, h3⟩ | rfl
    · rcases cases_ j sj ej with ⟨w, g1, g2, g3⟩ | rfl
      · have q1 := ok.each i si v h1 h2
        have q2 := ok.each j sj w g1 g2
        have ei : v = .ref p := by rw [hi] at h3; cases h3; rfl
        have ej : w = .ref p := by rw [hj] at g3; cases g3; rfl
        subst ei
        subst ej
        cases si with
        | bor o => cases sj with
          | bor u => exact ok.dis i j o u _ h1 g1 h2 g2
          | un => cases eoj
          | imm d => cases eoj
          | own u => exact q2.elim
        | un => cases eoi
        | imm d => cases eoi
        | own u => exact q1.elim
      · cases eoj
    · cases eoi
/-- THE RULE for a def -/
theorem fn_ok {P : Program} {w : World} {K : Fg} {mg : Str → Option Value} {base : Heap} {x qual : Str} {st : Stmt} {f : Addr} {fd : FuncData} {N ps : List Str} {k : Nat} {b : FS} (F : Fun K x qual st f fd) (S : FnScope N ps (defScope st))
    (hbody : ∀ (cdv : Value) (A : Around) (outer : List Env) (s : Shared) (H : Hp) (E : XK), Room k (A.deeper (envOfC qual (defScope st) s.heap.objs.size f cdv)) →
      PSs (cxOf CX0 P w K mg base N qual (defScope st) f cdv A outer s H E).nox (defBody st) (tS K b)) :
    FnOk P w K mg base CX0 (k + 1) f fd ps (spOf K (callF N.length b) ps.length) := by
  have hpl : ps.length ≤ N.length := by have := congrArg List.length S.pre; rw [List.length_take] at this; omega
  refine F.ok S (fun vs H Q E h => h.1) fun cdv A outer s H vs Q E hr h => ?_
  obtain ⟨hl, args, r, args', ok, e, q⟩ := h
  refine ⟨_, hbody cdv A outer s H E hr, tS_iff.mpr ⟨fxOf H args vs, _, fr_start (N := N) ok (by omega), ?_⟩⟩
  have fin : ∀ (ss : SS) (v : V) (σ' : St) (H' : Hp), Kp H H' → FR K (fxOf H args vs) ss σ' H' → RetR K (fxOf H args vs) ss σ' H' v r → args' = ss.take args.length → Q v H' := fun ss v σ' H' k1 f1 rr ea => by
    refine q v H' ⟨k1, fun a o ea hn => f1.rest a o ea fun i z => ?_, f1.there, fun i o u p h1 h2 h3 => ?_, ?_⟩
    · obtain ⟨o', z1, z2⟩ := fx_some z
      exact hn i o' z1 z2
    · subst ea
      rw [List.getElem?_take] at h2
      split at h2
      · obtain ⟨p', _, ow, hP⟩ := f1.slot i _ h2
        rw [fx_of h1 h3] at hP
        cases hP
        exact ow
      · cases h2
    · cases r with
      | imm d => exact rr
      | own o => obtain ⟨p, e1, e2, e3⟩ := rr; exact ⟨p, e1, e3.1, e2⟩
      | un => exact rr.elim
      | bor o => exact rr.elim
  unfold callF at e
  cases eb : b (args ++ List.replicate (N.length - args.length) .un) with
  | no => rw [eb] at e; cases e
  | bk ss => rw [eb] at e; cases e
  | ct ss => rw [eb] at e; cases e
  | rt r' ss =>
    rw [eb] at e
    cases e
    exact fun v σ' H' k1 f1 rr => fin ss v σ' H' k1 f1 rr rfl
  | nx ss =>
    rw [eb] at e
    cases e
    exact fun σ' H' k1 f1 => fin ss .non σ' H' k1 f1 .non rfl

/-! ### the call -/
def resolve (ss : SS) : List Ar → Option (List Sl)
  | [] => some []
  | .d d :: r => (resolve ss r).map fun t => .imm d :: t
  | .ref i :: r => match (ss[i]?).bind Sl.obj with
    | some o => (resolve ss r).map fun t => .bor o :: t
    | none => none
def refs : List Ar → List Nat
  | [] => []
  | .d _ :: r => refs r
  | .ref i :: r => i :: refs r
def putB : List Ar → List Sl → SS → Option SS
  | [], [], ss => some ss
  | .d _ :: r, _ :: t, ss => putB r t ss
  | .ref i :: r, .bor o :: t, ss => match ss[i]? with
    | some s => putB r t (ss.set i (s.put o))
    | none => none
  | _, _, _ => none
def callAt (F : FnS) (as : List Ar) (ss : SS) : Option (Sl × SS) := if (refs as).Nodup then (resolve ss as).bind fun args => (F args).bind fun p => (putB as p.2 ss).map fun s2 => (p.1, s2) else none
theorem mem_refs : ∀ {as : List Ar} {k j : Nat}, as[k]? = some (.ref j) → j ∈ refs as
  | .d _ :: r, 0, j, h => by cases h
  | .ref i :: r, 0, j, h => by cases h; exact List.mem_cons_self
  | .d _ :: r, k + 1, j, h => by
    unfold refs
    exact mem_refs (as := r) (k := k) h
  | .ref i :: r, k + 1, j, h => List.mem_cons_of_mem _ (mem_refs (as := r) (k := k) h)
  | [], k, j, h => by cases h
theorem refs_inj : ∀ {as : List Ar} {k l j : Nat}, (refs as).Nodup → as[k]? = some (.ref j) → as[l]? = some (.ref j) → k = l
  | [], _, _, _, _, h, _ => by cases h
  | .d _ :: r, 0, _, _, _, h, _ => by cases h
  | .d _ :: r, k + 1, 0, _, _, _, h => by cases h
  | .d _ :: r, k + 1, l + 1, j, n, h1, h2 => congrArg (· + 1) (refs_inj (as := r) (by unfold refs at n; exact n) h1 h2)
  | .ref i :: r, 0, 0, _, _, _, _ => rfl
  | .ref i :: r, 0, l + 1, j, n, h1, h2 => by
    cases h1
    exact absurd (mem_refs (as := r) h2) (List.nodup_cons.mp n).1
  | .ref i :: r, k + 1, 0, j, n, h1, h2 => by
    cases h2
    exact absurd (mem_refs (as := r) h1) (List.nodup_cons.mp n).1
  | .ref i :: r, k + 1, l + 1, j, n, h1, h2 => congrArg (· + 1) (refs_inj (as := r) (List.nodup_cons.mp n).2 h1 h2)
theorem resolve_len : ∀ {as : List Ar} {ss : SS} {args : List Sl}, resolve ss as = some args → args.length = as.length
  | [], _, _, h => by cases h; rfl
  | .d _ :: r, ss, args, h => by
    obtain ⟨t, h1, rfl⟩ := Option.map_eq_some_iff.mp h
    rw [List.length_cons, List.length_cons, resolve_len h1]
  | .ref i :: r, ss, args, h => by
    unfold resolve at h
    split at h
    · obtain ⟨t, h1, rfl⟩ := Option.map_eq_some_iff.mp h
      rw [List.length_cons, List.length_cons, resolve_len h1]
    · cases h
theorem resolve_get : ∀ {as : List Ar} {ss : SS} {args : List Sl} {k : Nat} {sl : Sl}, resolve ss as = some args → args[k]? = some sl → (∃ d, as[k]? = some (.d d) ∧ sl = .imm d) ∨ ∃ i s o, as[k]? = some (.ref i) ∧ ss[i]? = some s ∧ s.obj = some o ∧ sl = .bor o
  | [], _, _, k, sl, h, e => by cases h; cases e
  | .d d :: r, ss, args, k, sl, h, e => by
    obtain ⟨t, h1, rfl⟩ := Option.map_eq_some_iff.mp h
    cases k with
    | zero => cases e; exact .inl ⟨d, rfl, rfl⟩
    | succ k => exact resolve_get (as := r) h1 e
  | .ref i :: r, ss, args, k, sl, h, e => by
    unfold resolve at h
    split at h
    · rename_i o ho
      obtain ⟨s, hs, hso⟩ := Option.bind_eq_some_iff.mp ho
      obtain ⟨t, h1, rfl⟩ := Option.map_eq_some_iff.mp h
      cases k with
      | zero => cases e; exact .inr ⟨i, s, o, rfl, hs, hso, rfl⟩
      | succ k => exact resolve_get (as := r) h1 e
    · cases h
/-- place by place -/
theorem putB_get : ∀ {as : List Ar} {t : List Sl} {ss s2 : SS}, putB as t ss = some s2 → (refs as).Nodup → s2.length = ss.length ∧ ∀ j : Nat, (∃ (k : Nat) (o : O) (s : Sl), as[k]? = some (.ref j) ∧ t[k]? = some (.bor o) ∧ ss[j]? = some s ∧ s2[j]? = some (s.put o)) ∨ ((∀ k : Nat, as[k]? ≠ some (Ar.ref j)) ∧ s2[j]? = ss[j]?)
  | [], [], ss, s2, h, _ => by cases h; exact ⟨rfl, fun j => .inr ⟨fun k z => (by cases z), rfl⟩⟩
  | .d d :: r, x :: t, ss, s2, h, n => by
    obtain ⟨h1, h2⟩ := putB_get (as := r) (t := t) h (by unfold refs at n; exact n)
    refine ⟨h1, fun j => ?_⟩
    rcases h2 j with ⟨k, o, s, a, b, c⟩ | ⟨a, b⟩
    · exact .inl ⟨k + 1, o, s, a, b, c⟩
    · refine .inr ⟨fun k z => ?_, b⟩
      cases k with
      | zero => cases z
      | succ k => exact a k z
  | .ref i :: r, .bor o :: t, ss, s2, h, n => by
    unfold putB at h
    split at h
    · rename_i s hs
      have n2 := List.nodup_cons.mp n
      obtain ⟨h1, h2⟩ := putB_get (as := r) (t := t) h n2.2
      refine ⟨h1.trans (by rw [List.length_set]), fun j => ?_⟩
      by_cases hj : j = i
      · subst hj
        rcases h2 j with ⟨k, o', s', a, b, c⟩ | ⟨a, b⟩
        · exact absurd (mem_refs a) n2.1
        · refine .inl ⟨0, o, s, rfl, rfl, hs, ?_⟩
          rw [b, List.getElem?_set_self (List.getElem?_eq_some_iff.mp hs).1]
      · rcases h2 j with ⟨k, o', s', a, b, c, d⟩ | ⟨a, b⟩
        · rw [List.getElem?_set_ne (Ne.symm hj)] at c
          exact .inl ⟨k + 1, o', s', a, b, c, d⟩
        · rw [List.getElem?_set_ne (Ne.symm hj)] at b
          refine .inr ⟨fun k z => ?_, b⟩
          cases k with
          | zero => cases z; exact hj rfl
          | succ k => exact a k z
    · cases h
  | .ref i :: r, .un :: t, ss, s2, h, n => by cases h
  | .ref i :: r, .imm _ :: t, ss, s2, h, n => by cases h
  | .ref i :: r, .own _ :: t, ss, s2, h, n => by cases h
  | [], x :: t, ss, s2, h, n => by cases h
  | .d _ :: r, [], ss, s2, h, n => by cases h
  | .ref _ :: r, [], ss, s2, h, n => by cases h
section
variable {K : Fg} {fx : Fx} {ss s2 : SS} {σ : St} {H H' : Hp}
theorem argsR_get {as : List Ar} {vs : List V} (h : ArgsR K H σ vs as) : vs.length = as.length ∧ ∀ (k : Nat) (v : V) (a : Ar), vs[k]? = some v → as[k]? = some a → ArgR K H σ v a := by
  refine ⟨Paired.length h, ?_⟩
  induction h with
  | nil => intro k v a e; cases e
  | cons r t ih =>
    intro k v a e1 e2
    cases k with
    | zero => cases e1; cases e2; exact r
    | succ k => exact ih k v a e1 e2
theorem args_ok {as : List Ar} {vs : List V} {args : List Sl} (f : FR K fx ss σ H) (r : ArgsR K H σ vs as) (n : (refs as).Nodup) (e : resolve ss as = some args) : ArgsOk K H args vs := by
  obtain ⟨hl, hg⟩ := argsR_get r
  refine ⟨by rw [hl, resolve_len e], fun i sl v h1 h2 => ?_, fun i j o u v h1 h2 h3 h4 => ?_⟩
  · rcases resolve_get e h1 with ⟨d, a, rfl⟩ | ⟨k, s, o, a, b, c, rfl⟩
    · cases hg i v _ h2 a with
      | d rp => exact rp
    · cases hg i v _ h2 a with
      | ref hs =>
        obtain ⟨p, z, ow, _⟩ := (f.slot k s b).obj c
        rw [hs] at z
        cases z
        exact ⟨p, rfl, ow⟩
  · rcases resolve_get e h1 with ⟨d, a, z⟩ | ⟨k, s, o1, a, b, c, z⟩
    · cases z
    · rcases resolve_get e h2 with ⟨d, a2, z2⟩ | ⟨k2, s2, o2, a2, b2, c2, z2⟩
      · cases z2
      · cases hg i v _ h3 a with
        | ref hs =>
          cases hg j v _ h4 a2 with
          | ref hs2 =>
            obtain ⟨p, zz, _⟩ := (f.slot k s b).obj c
            rw [hs] at zz
            cases zz
            have ek : k = k2 := f.dis k k2 p s s2 o1 o2 b b2 c c2 hs hs2
            subst ek
            exact refs_inj n a a2
theorem FR.called {as : List Ar} {vs : List V} {args args' : List Sl} {r : Sl} {v : V} (f : FR K fx ss σ H) (ra : ArgsR K H σ vs as) (n : (refs as).Nodup) (e : resolve ss as = some args) (pc : PostC K H H' vs args args' r v) (pb : putB as args' ss = some s2) : FR K fx s2 σ H' := by
  obtain ⟨hl, hg⟩ := argsR_get ra
  obtain ⟨l2, g2⟩ := putB_get pb n
  have alen := resolve_len e
  -- a slot's object that isn't lent stays
  have stays : ∀ (j : Nat) (p : Addr) (s : Sl) (o : O), ss[j]? = some s → s.obj = some o → σ[j]? = some (some (.ref p)) → (∀ k : Nat, as[k]? ≠ some (.ref j)) → H' p = H p := fun j p s o e1 e2 e3 hn => by
    obtain ⟨u, hu, _⟩ := f.root e1 e2 e3
    rw [hu]
    refine pc.rest p u hu fun i u' h1 h2 => ?_
    rcases resolve_get e h1 with ⟨d, a, z⟩ | ⟨k, s', o', a, b, c, z⟩
    · cases z
    · cases hg i _ _ h2 a with
      | ref hs =>
        have ek : k = j := f.dis k j p s' s o' o b e1 c e2 hs e3
        subst ek
        exact hn i a
  have lent : ∀ (k j : Nat) (o : O) (s : Sl) (p : Addr) (o' : O), as[k]? = some (.ref j) → args'[k]? = some (.bor o) → ss[j]? = some s → s.obj = some o' → σ[j]? = some (some (.ref p)) → OwnAt K H' p o := fun k j o s p o' h1 h2 h3 h4 h5 => by
    have hk : k < as.length := (List.getElem?_eq_some_iff.mp h1).1
    have hv : vs[k]? = some (vs[k]'(by omega)) := List.getElem?_eq_getElem (by omega)
    have ha : args[k]? = some (args[k]'(by omega)) := List.getElem?_eq_getElem (by omega)
    rcases resolve_get e ha with ⟨d, a, z⟩ | ⟨i, s', o2, a, b, c, z⟩
    · rw [h1] at a; cases a
    · rw [h1] at a
      cases a
      rw [z] at ha
      have q := hg k _ _ hv h1
      cases q with
      | ref hs =>
        rw [h5] at hs
        have hvp : vs[k]? = some (.ref p) := by rw [hv]; exact (Option.some.inj hs).symm
        exact pc.bor k o2 o p ha h2 hvp
  have obj_of : ∀ (j : Nat) (sl : Sl) (o : O), s2[j]? = some sl → sl.obj = some o → ∃ s o', ss[j]? = some s ∧ s.obj = some o' := fun j sl o e1 e2 => by
    rcases g2 j with ⟨k, o1, s, a, b, c, d⟩ | ⟨_, b⟩
    · rw [d] at e1
      cases e1
      cases s with
      | un => cases e2
      | imm x => cases e2
      | own x => exact ⟨_, _, c, rfl⟩
      | bor x => exact ⟨_, _, c, rfl⟩
    · rw [b] at e1
      exact ⟨_, _, e1, e2⟩
  refine ⟨by rw [f.len, l2], f.kp.trans pc.kp, fun a o ea hP => ?_, fun a ea => f.there a (pc.there a ea), fun j sl ej => ?_, fun i j p si sj oi oj ei ej eoi eoj hi hj => ?_⟩
  · refine pc.rest a o (f.rest a o ea hP) fun i u h1 h2 => ?_
    rcases resolve_get e h1 with ⟨d, x, z⟩ | ⟨k, s, o2, x, b, c, z⟩
    · cases z
    · cases hg i _ _ h2 x with
      | ref hs =>
        obtain ⟨p, z1, _, z3⟩ := (f.slot k s b).obj c
        rw [hs] at z1
        cases z1
        rcases z3 with z3 | z3
        · rw [ea] at z3; cases z3
        · exact hP k z3
  · rcases g2 j with ⟨k, o1, s, a, b, c, d⟩ | ⟨hn, b⟩
    · rw [d] at ej
      cases ej
      have q := f.slot j s c
      cases s with
      | un => exact q
      | imm x => obtain ⟨v, q1, q2⟩ := q; exact ⟨v, q1, q2.kp pc.kp⟩
      | own x => obtain ⟨p, q1, q2, q3⟩ := q; exact ⟨p, q1, lent k j o1 _ p x a b c rfl q1, q3⟩
      | bor x => obtain ⟨p, q1, q2, q3⟩ := q; exact ⟨p, q1, lent k j o1 _ p x a b c rfl q1, q3⟩
    · rw [b] at ej
      have q := f.slot j sl ej
      cases sl with
      | un => exact q
      | imm x => obtain ⟨v, q1, q2⟩ := q; exact ⟨v, q1, q2.kp pc.kp⟩
      | own x => obtain ⟨p, q1, q2, q3⟩ := q; exact ⟨p, q1, q2.kp pc.kp (stays j p _ x ej rfl q1 hn), q3⟩
      | bor x => obtain ⟨p, q1, q2, q3⟩ := q; exact ⟨p, q1, q2.kp pc.kp (stays j p _ x ej rfl q1 hn), q3⟩
  · obtain ⟨s, o, a, b⟩ := obj_of i si oi ei eoi
    obtain ⟨s', o', a', b'⟩ := obj_of j sj oj ej eoj
    exact f.dis i j p s s' o o' a a' b b' hi hj
theorem putB_obj {as : List Ar} {t : List Sl} (pb : putB as t ss = some s2) (n : (refs as).Nodup) {j : Nat} {sl : Sl} {o : O} (e1 : s2[j]? = some sl) (e2 : sl.obj = some o) : ∃ s o', ss[j]? = some s ∧ s.obj = some o' := by
  rcases (putB_get pb n).2 j with ⟨k, o1, s, a, b, c, d⟩ | ⟨_, b⟩
  · rw [d] at e1
    cases e1
    cases s with
    | un => cases e2
    | imm x => cases e2
    | own x => exact ⟨_, _, c, rfl⟩
    | bor x => exact ⟨_, _, c, rfl⟩
  · rw [b] at e1
    exact ⟨_, _, e1, e2⟩
end
def LenA (fa : SS → Res (List Ar)) (n : Nat) : Prop := ∀ (ss : SS) (as : List Ar) (s1 : SS), fa ss = .ok as s1 → as.length = n
/-- arguments, one behind the other -/
def aNil : SS → Res (List Ar) := fun ss => .ok [] ss
def aCons (a : FE) (b : SS → Res (List Ar)) : SS → Res (List Ar) := fun ss => (a ss).bind fun x s1 => (b s1).bind fun y s2 => .ok (.d x :: y) s2
def aRef (i : Nat) (b : SS → Res (List Ar)) : SS → Res (List Ar) := fun ss => match (ss[i]?).bind Sl.obj with
  | some _ => (b ss).bind fun y s2 => .ok (.ref i :: y) s2
  | none => .no
theorem ln : LenA aNil 0 := fun _ _ _ h => by cases h; rfl
theorem lc {a : FE} {b : SS → Res (List Ar)} {n : Nat} (h : LenA b n) : LenA (aCons a b) (n + 1) := fun _ _ _ q => by
  obtain ⟨x, s1, e1, e⟩ := bind_ok q
  obtain ⟨y, s2, e2, e⟩ := bind_ok e
  cases e
  rw [List.length_cons, h _ _ _ e2]
theorem lr {i : Nat} {b : SS → Res (List Ar)} {n : Nat} (h : LenA b n) : LenA (aRef i b) (n + 1) := fun ss _ _ q => by
  unfold aRef at q
  split at q
  · obtain ⟨y, s2, e2, e⟩ := bind_ok q
    cases e
    rw [List.length_cons, h _ _ _ e2]
  · cases q
def eCall (F : FnS) (a : SS → Res (List Ar)) : FE := fun ss => (a ss).bind fun as s1 => match callAt F as s1 with
  | some (.imm d, s2) => .ok d s2
  | _ => .no
def nCall (F : FnS) (a : SS → Res (List Ar)) : FN := fun ss => (a ss).bind fun as s1 => match callAt F as s1 with
  | some (.own d, s2) => .ok d s2
  | _ => .no
section
variable {X : Cx} {k : Nat} {f : Addr} {fd : FuncData} {ps : List Str} {F : FnS} {x : Str} {e : Expr} {es : List Expr} {p pos : Pos} {fa : SS → Res (List Ar)}
theorem callAt_some {as : List Ar} {ss s2 : SS} {r : Sl} (h : callAt F as ss = some (r, s2)) : (refs as).Nodup ∧ ∃ args args', resolve ss as = some args ∧ F args = some (r, args') ∧ putB as args' ss = some s2 := by
  unfold callAt at h
  split at h
  · rename_i n
    obtain ⟨args, h1, h2⟩ := Option.bind_eq_some_iff.mp h
    obtain ⟨q, h3, h4⟩ := Option.bind_eq_some_iff.mp h2
    obtain ⟨t, h5, h6⟩ := Option.map_eq_some_iff.mp h4
    cases h6
    exact ⟨n, args, q.2, h1, h3, h5⟩
  · cases h
theorem call_read {m : Nat} {as : List Ar} {ss s2 : SS} {r : Sl} {fx : Fx} {σ : St} {H1 : Hp} {vs : List V} {Q : VK} {E : XK} (hm : as.length = m) (h : callAt F as ss = some (r, s2)) (fr : FR X.F fx ss σ H1) (ra : ArgsR X.F H1 σ vs as)
    (k : ∀ v H', Kp H1 H' → FR X.F fx s2 σ H' → RetR X.F fx s2 σ H' v r → Q v H') : spOf X.F F m (vs ++ []) H1 Q E := by
  obtain ⟨n, args, args', h1, h2, h3⟩ := callAt_some h
  rw [List.append_nil]
  refine ⟨by rw [(argsR_get ra).1, hm], args, r, args', args_ok fr ra n h1, h2, fun v H' pc => k v H' pc.kp (fr.called ra n h1 pc h3) ?_⟩
  have rt := pc.ret
  cases r with
  | imm d => exact rt
  | own o =>
    obtain ⟨q, e1, e2, e3⟩ := rt
    refine ⟨q, e1, e3, fr.there q e2, fun i si oi hi ho hs => ?_⟩
    obtain ⟨s, o', a, b⟩ := putB_obj h3 n hi ho
    obtain ⟨u, hu, _⟩ := fr.root a b hs
    rw [e2] at hu
    cases hu
  | un => exact rt.elim
  | bor o => exact rt.elim
theorem xcall (G : FnOk X.prog X.w X.F X.mg X.base CX0 k f fd ps (spOf X.F F ps.length)) (hr : Room k X.A) (hm : X.mg x = some (.ref f)) (hk : PySem.W.keepIn X.F (.ref f) = true) (hb : Binds X.F fd ps []) (ha : PA X (e :: es) (tA X.F fa)) (hl : (e :: es).length = ps.length := by rfl) (hal : LenA fa (e :: es).length) (hg : Gl X x := by rfl)
    (hdb : (x == ("__debug__" : Str)) = false := by decide) (he : starEach (e :: es) X.env = (false, eval e X.env) :: starEach es X.env := by rfl) (hpl : (backTo pos (starEach es X.env)).any (·.1) = false := by rfl) : PE X (.Call (.Name x p) (e :: es) [] pos) (tD X.F (eCall F fa)) := by
  refine (pe_call G hr hg hm hk hb .nil pass0 ha hdb he hpl).imp fun σ H Q q => ?_
  obtain ⟨fx, ss, d, s3, fr, e, k⟩ := q
  obtain ⟨as, s1, e1, e⟩ := bind_ok e
  split at e
  · rename_i d2 s2 ec
    cases e
    exact ⟨fx, ss, as, s1, fr, e1, fun vs H1 k1 f1 ra => call_read ((hal _ _ _ e1).trans hl) ec f1 ra fun v H' k2 f2 r2 => k v H' (k1.trans k2) f2 r2⟩
  · cases e
theorem xcallN (G : FnOk X.prog X.w X.F X.mg X.base CX0 k f fd ps (spOf X.F F ps.length)) (hr : Room k X.A) (hm : X.mg x = some (.ref f)) (hk : PySem.W.keepIn X.F (.ref f) = true) (hb : Binds X.F fd ps []) (ha : PA X (e :: es) (tA X.F fa)) (hl : (e :: es).length = ps.length := by rfl) (hal : LenA fa (e :: es).length) (hg : Gl X x := by rfl)
    (hdb : (x == ("__debug__" : Str)) = false := by decide) (he : starEach (e :: es) X.env = (false, eval e X.env) :: starEach es X.env := by rfl) (hpl : (backTo pos (starEach es X.env)).any (·.1) = false := by rfl) : PE X (.Call (.Name x p) (e :: es) [] pos) (tN X.F (nCall F fa)) := by
  refine (pe_call G hr hg hm hk hb .nil pass0 ha hdb he hpl).imp fun σ H Q q => ?_
  obtain ⟨fx, ss, d, s3, fr, e, k⟩ := q
  obtain ⟨as, s1, e1, e⟩ := bind_ok e
  split at e
  · rename_i d2 s2 ec
    cases e
    refine ⟨fx, ss, as, s1, fr, e1, fun vs H1 k1 f1 ra => call_read ((hal _ _ _ e1).trans hl) ec f1 ra fun v H' k2 f2 r2 => ?_⟩
    obtain ⟨q, rfl, r3, n3⟩ := r2
    exact k q H' (k1.trans k2) f2 r3 n3
  · cases e
end
end Dt

/-! Dt6: arguments, built-in calls, by data. -/
namespace Dt
open PySem PySem.Spec L2
open PyProof.Rows hiding St
open PySem.W (alike alikeAll dataLt EachIs)
section
variable {X : Cx} {a b : Expr} {es : List Expr} {pos : Pos} {f g : FE} {fa : SS → Res (List Ar)}
/-! ### arguments of defs -/
theorem an' : PA X [] (tA X.F aNil) := by
  refine pa_nil.imp fun σ H Q q => ?_
  obtain ⟨fx, ss, d, s3, f, e, k⟩ := q
  cases e
  exact k [] H (Kp.refl H) f .nil
theorem ac' (ha : PE X a (tD X.F f)) (hr : PA X es (tA X.F fa)) (hs : starEach (a :: es) X.env = (false, eval a X.env) :: starEach es X.env := by rfl) : PA X (a :: es) (tA X.F (aCons f fa)) := by
  refine (pa_cons ha hr hs).imp fun σ H Q q => ?_
  obtain ⟨fx, ss, d, s3, fr, e, k⟩ := q
  obtain ⟨x, s1, e1, e⟩ := bind_ok e
  obtain ⟨y, s2, e2, e⟩ := bind_ok e
  cases e
  exact ⟨fx, ss, x, s1, fr, e1, fun v H1 k1 f1 r1 => ⟨fx, s1, y, _, f1, e2, fun vs H2 k2 f2 r2 => k _ H2 (k1.trans k2) f2 (.cons (.d (r1.kp k2)) r2)⟩⟩
theorem ar (i : Nat) {x : Str} {p : Pos} (hr : PA X es (tA X.F fa)) (hN : X.N[i]? = some x := by rfl) (hv : Vis X.env.scope x := by first | exact Or.inl rfl | exact Or.inr (Or.inl rfl) | exact Or.inr (Or.inr rfl)) (hs : starEach (Expr.Name x p :: es) X.env = (false, eval (Expr.Name x p) X.env) :: starEach es X.env := by rfl)
    (hd : (x == ("__debug__" : Str)) = false := by decide) (hcd : (x == ("__classdict__" : Str)) = false := by decide) : PA X (Expr.Name x p :: es) (tA X.F (aRef i fa)) := by
  refine (pa_cons (pe_var hN hv hd hcd) hr hs).imp fun σ H Q q => ?_
  obtain ⟨fx, ss, d, s3, fr, e, k⟩ := q
  unfold aRef at e
  split at e
  · rename_i o ho
    obtain ⟨s, hs, hso⟩ := Option.bind_eq_some_iff.mp ho
    obtain ⟨y, s2, e2, e⟩ := bind_ok e
    cases e
    obtain ⟨q, z, ow, _⟩ := (fr.slot i s hs).obj hso
    exact ⟨_, z, fx, ss, y, _, fr, e2, fun vs H2 k2 f2 r2 => k _ H2 k2 f2 (.cons (.ref z) r2)⟩
  · cases e
/-! ### len, all, any, sum, min, max, tuple, list, int, str -/
def gLen : List D → Option D
  | [.list ds] => some (.int ds.length)
  | [.tuple ds] => some (.int ds.length)
  | [.str x] => if x.length ≤ sizeLine then some (.int x.length) else none
  | [d] => (kvsOf d).map fun p => .int p.2.length
  | _ => none
theorem RepAll.one {K : Fg} {H : Hp} {vs : List V} {d : D} (h : RepAll K H vs [d]) : ∃ v, vs = [v] ∧ Rep K H v d := by
  cases h with
  | cons h r => cases r; exact ⟨_, rfl, h⟩
theorem RepAll.two {K : Fg} {H : Hp} {vs : List V} {d e : D} (h : RepAll K H vs [d, e]) : ∃ v w, vs = [v, w] ∧ Rep K H v d ∧ Rep K H w e := by
  cases h with
  | cons h r =>
    obtain ⟨w, rfl, h2⟩ := r.one
    exact ⟨_, w, rfl, h, h2⟩
theorem cLen : CallR X (.builtin "len") (cD X.F gLen) := by
  intro pins s σ H vs us Q I r ⟨ds, z, hd, hz, k⟩
  unfold gLen at hz
  split at hz
  · cases hz
    obtain ⟨v, rfl, rv⟩ := hd.one
    obtain ⟨a, xs, rfl, h1, r1⟩ := rv.lstv
    exact call_len_seq pins s σ H _ us Q I r ⟨a, xs, rfl, .inl h1.sq, k _ _ (Same.refl H) (by rw [r1.len]; exact .int _)⟩
  · cases hz
    obtain ⟨v, rfl, rv⟩ := hd.one
    obtain ⟨a, xs, rfl, h1, r1⟩ := rv.tupv
    exact call_len_seq pins s σ H _ us Q I r ⟨a, xs, rfl, .inr h1, k _ _ (Same.refl H) (by rw [r1.len]; exact .int _)⟩
  · split at hz
    · rename_i hl
      cases hz
      obtain ⟨v, rfl, rv⟩ := hd.one
      obtain rfl := rv.strv
      exact call_len_str pins s σ H _ us Q I r ⟨_, rfl, hl, k _ _ (Same.refl H) (.int _)⟩
    · cases hz
  · obtain ⟨⟨n, kvs⟩, he, rfl⟩ := Option.map_eq_some_iff.mp hz
    obtain ⟨v, rfl, rv⟩ := hd.one
    obtain ⟨a, rfl, g⟩ := rv.dat he
    rw [Vals.ref1 r]
    exact da_len I g fun t s' I' => ⟨.int _, H, I', ⟨t, rfl⟩, k _ _ (Same.refl H) (.int _)⟩
  · cases hz
theorem boolsOf : ∀ {ds : List D} {bs : List Bool}, ds.mapM asB = some bs → ds = bs.map .bool
  | [], bs, h => by cases h; rfl
  | d :: ds, bs, h => by
    rw [List.mapM_cons] at h
    obtain ⟨b, h1, h⟩ := Option.bind_eq_some_iff.mp h
    obtain ⟨bs', h2, h⟩ := Option.bind_eq_some_iff.mp h
    cases h
    rw [asB_some h1, boolsOf h2]
    rfl
theorem RepAll.bools {K : Fg} {H : Hp} : ∀ {vs : List V} {bs : List Bool}, RepAll K H vs (bs.map .bool) → vs = bs.map V.bl
  | [], [], _ => rfl
  | v :: vs, b :: bs, h => by
    cases h with
    | cons h r => rw [h.bool, RepAll.bools r]; rfl
  | v :: vs, [], h => by cases h
  | [], b :: bs, h => by cases h
def gAll : List D → Option D
  | [.list ds] => (ds.mapM asB).map fun bs => .bool (bs.all id)
  | _ => none
def gAny : List D → Option D
  | [.list ds] => (ds.mapM asB).map fun bs => .bool (bs.any id)
  | _ => none
theorem cAll (hc : X.calm = true) : CallR X (.builtin "all") (cD X.F gAll) := by
  intro pins s σ H vs us Q I r ⟨ds, z, hd, hz, k⟩
  unfold gAll at hz
  split at hz
  · obtain ⟨bs, hb, rfl⟩ := Option.map_eq_some_iff.mp hz
    obtain ⟨v, rfl, rv⟩ := hd.one
    obtain ⟨a, xs, rfl, h1, r1⟩ := rv.lstv
    rw [boolsOf hb] at r1
    rw [r1.bools] at h1
    exact cr_all hc pins s σ H _ us Q I r ⟨a, bs, rfl, h1.sq, k _ _ (Same.refl H) (.bl _)⟩
  · cases hz
theorem cAny (hc : X.calm = true) : CallR X (.builtin "any") (cD X.F gAny) := by
  intro pins s σ H vs us Q I r ⟨ds, z, hd, hz, k⟩
  unfold gAny at hz
  split at hz
  · obtain ⟨bs, hb, rfl⟩ := Option.map_eq_some_iff.mp hz
    obtain ⟨v, rfl, rv⟩ := hd.one
    obtain ⟨a, xs, rfl, h1, r1⟩ := rv.lstv
    rw [boolsOf hb] at r1
    rw [r1.bools] at h1
    exact cr_any hc pins s σ H _ us Q I r ⟨a, bs, rfl, h1.sq, k _ _ (Same.refl H) (.bl _)⟩
  · cases hz
def asI : D → Option Int
  | .int i => some i
  | _ => none
theorem asI_some {d : D} {i : Int} (h : asI d = some i) : d = .int i := by
  cases d <;> first | (cases h; rfl) | cases h
theorem intsOf : ∀ {ds : List D} {bs : List Int}, ds.mapM asI = some bs → ds = bs.map .int
  | [], bs, h => by cases h; rfl
  | d :: ds, bs, h => by
    rw [List.mapM_cons] at h
    obtain ⟨b, h1, h⟩ := Option.bind_eq_some_iff.mp h
    obtain ⟨bs', h2, h⟩ := Option.bind_eq_some_iff.mp h
    cases h
    rw [asI_some h1, intsOf h2]
    rfl
theorem mapM_ints : ∀ ns : List Int, (ns.map PyData.int).mapM asI = some ns
  | [] => rfl
  | n :: ns => by rw [List.map_cons, List.mapM_cons, mapM_ints ns]; rfl
theorem mapM_bools : ∀ ns : List Bool, (ns.map PyData.bool).mapM asB = some ns
  | [] => rfl
  | n :: ns => by rw [List.map_cons, List.mapM_cons, mapM_bools ns]; rfl
theorem RepAll.ints {K : Fg} {H : Hp} : ∀ {vs : List V} {bs : List Int}, RepAll K H vs (bs.map .int) → vs = bs.map V.int
  | [], [], _ => rfl
  | v :: vs, b :: bs, h => by
    cases h with
    | cons h r => rw [h.intv, RepAll.ints r]; rfl
  | v :: vs, [], h => by cases h
  | [], b :: bs, h => by cases h
def gSum : List D → Option D
  | [.list ds] => (ds.mapM asI).map fun bs => .int bs.sum
  | _ => none
theorem cSum (hc : X.calm = true) : CallR X (.builtin "sum") (cD X.F gSum) := by
  intro pins s σ H vs us Q I r ⟨ds, z, hd, hz, k⟩
  unfold gSum at hz
  split at hz
  · obtain ⟨bs, hb, rfl⟩ := Option.map_eq_some_iff.mp hz
    obtain ⟨v, rfl, rv⟩ := hd.one
    obtain ⟨a, xs, rfl, h1, r1⟩ := rv.lstv
    rw [intsOf hb] at r1
    rw [r1.ints] at h1
    exact cr_sum hc pins s σ H _ us Q I r ⟨a, bs, rfl, h1.sq, k _ _ (Same.refl H) (.int _)⟩
  · cases hz
def gMax : List D → Option D
  | [.int i, .int j] => some (.int (if j > i then j else i))
  | _ => none
def gMin : List D → Option D
  | [.int i, .int j] => some (.int (if j < i then j else i))
  | _ => none
theorem cMax (hc : X.calm = true) : CallR X (.builtin "max") (cD X.F gMax) := by
  intro pins s σ H vs us Q I r ⟨ds, z, hd, hz, k⟩
  unfold gMax at hz
  split at hz
  · cases hz
    obtain ⟨v, w, rfl, h1, h2⟩ := hd.two
    obtain rfl := h1.intv
    obtain rfl := h2.intv
    exact call_max2 hc pins s σ H _ us Q I r ⟨_, _, rfl, k _ _ (Same.refl H) (.int _)⟩
  · cases hz
theorem cMin (hc : X.calm = true) : CallR X (.builtin "min") (cD X.F gMin) := by
  intro pins s σ H vs us Q I r ⟨ds, z, hd, hz, k⟩
  unfold gMin at hz
  split at hz
  · cases hz
    obtain ⟨v, w, rfl, h1, h2⟩ := hd.two
    obtain rfl := h1.intv
    obtain rfl := h2.intv
    exact call_min2 hc pins s σ H _ us Q I r ⟨_, _, rfl, k _ _ (Same.refl H) (.int _)⟩
  · cases hz
def gTuple : List D → Option D
  | [.list ds] => some (.tuple ds)
  | [.tuple ds] => some (.tuple ds)
  | _ => none
theorem cTuple : CallR X (.type "tuple") (cD X.F gTuple) := by
  intro pins s σ H vs us Q I r ⟨ds, z, hd, hz, k⟩
  unfold gTuple at hz
  split at hz
  · cases hz
    obtain ⟨v, rfl, rv⟩ := hd.one
    obtain ⟨a, xs, rfl, h1, r1⟩ := rv.lstv
    exact call_tuple_of pins s σ H _ us Q I r ⟨a, xs, rfl, .inl ⟨h1.sq, fun p hp => k _ _ (same_new hp) (.tup (.of upd_same) (r1.kp (.same (same_new hp))))⟩⟩
  · cases hz
    obtain ⟨v, rfl, rv⟩ := hd.one
    obtain ⟨a, xs, rfl, h1, r1⟩ := rv.tupv
    exact call_tuple_of pins s σ H _ us Q I r ⟨a, xs, rfl, .inr ⟨h1, k _ _ (Same.refl H) rv⟩⟩
  · cases hz
def gList : List D → Option O
  | [.list ds] => some (.lst ds)
  | [.tuple ds] => some (.lst ds)
  | [d] => (kvsOf d).map fun p => .lst (p.2.map (·.1))
  | _ => none
theorem cListN (hcalm : X.calm = true) : CallR X (.type "list") (cDN X.F gList) := by
  intro pins s σ H vs us Q I r ⟨ds, z, hd, hz, k⟩
  unfold gList at hz
  split at hz
  · cases hz
    obtain ⟨v, rfl, rv⟩ := hd.one
    obtain ⟨a, xs, rfl, h1, r1⟩ := rv.lstv
    exact call_list_of pins s σ H _ us Q I r ⟨a, xs, rfl, .inl h1.sq, fun p hp => k _ _ hp (same_new hp) ⟨_, upd_same, r1.kp (.same (same_new hp))⟩⟩
  · cases hz
    obtain ⟨v, rfl, rv⟩ := hd.one
    obtain ⟨a, xs, rfl, h1, r1⟩ := rv.tupv
    exact call_list_of pins s σ H _ us Q I r ⟨a, xs, rfl, .inr h1, fun p hp => k _ _ hp (same_new hp) ⟨_, upd_same, r1.kp (.same (same_new hp))⟩⟩
  · obtain ⟨⟨n, kvs⟩, he, rfl⟩ := Option.map_eq_some_iff.mp hz
    obtain ⟨v, rfl, rv⟩ := hd.one
    obtain ⟨a, rfl, g⟩ := rv.dat he
    rw [Vals.ref1 r]
    exact da_list (I.ok.hd hcalm) I g fun ks p s' hp rk I' => ⟨.ref p, _, I', rfl, k _ _ hp (same_new hp) ⟨ks, upd_same, rk.kp (.same (same_new hp))⟩⟩
  · cases hz
def gInt : List D → Option D
  | [.int i] => some (.int i)
  | [.bool b] => some (.int (if b = true then 1 else 0))
  | [.str x] => if x.length ≤ 640 then (PySem.intText? x).map .int else none
  | _ => none
theorem cInt : CallR X (.type "int") (cD X.F gInt) := by
  intro pins s σ H vs us Q I r ⟨ds, z, hd, hz, k⟩
  unfold gInt at hz
  split at hz
  · cases hz
    obtain ⟨v, rfl, rv⟩ := hd.one
    obtain rfl := rv.intv
    exact call_int1 pins s σ H _ us Q I r (.inl ⟨_, rfl, k _ _ (Same.refl H) (.int _)⟩)
  · cases hz
    obtain ⟨v, rfl, rv⟩ := hd.one
    obtain rfl := rv.bool
    exact call_int1 pins s σ H _ us Q I r (.inr ⟨_, rfl, k _ _ (Same.refl H) (.int _)⟩)
  · split at hz
    · rename_i hl
      obtain ⟨n, hn, rfl⟩ := Option.map_eq_some_iff.mp hz
      obtain ⟨v, rfl, rv⟩ := hd.one
      obtain rfl := rv.strv
      exact call_int_str pins s σ H _ us Q I r ⟨_, n, rfl, hn, hl, k _ _ (Same.refl H) (.int _)⟩
    · cases hz
  · cases hz
def gStr : List D → Option D
  | [.int i] => if i.natAbs.log2 < 1920 then some (.str (toString i)) else none
  | [.bool b] => some (.str (if b = true then "True" else "False"))
  | [.str x] => some (.str x)
  | _ => none
theorem cStr : CallR X (.type "str") (cD X.F gStr) := by
  intro pins s σ H vs us Q I r ⟨ds, z, hd, hz, k⟩
  unfold gStr at hz
  split at hz
  · split at hz
    · rename_i hl
      cases hz
      obtain ⟨v, rfl, rv⟩ := hd.one
      obtain rfl := rv.intv
      exact call_str_int pins s σ H _ us Q I r ⟨_, rfl, hl, k _ _ (Same.refl H) (.str _)⟩
    · cases hz
  · cases hz
    obtain ⟨v, rfl, rv⟩ := hd.one
    obtain rfl := rv.bool
    obtain ⟨u, rfl, r1⟩ := vals1 r
    cases r1
    exact PySem.P.str_of_bool ⟨.str _, H, I.tok _, ⟨_, rfl⟩, k _ _ (Same.refl H) (.str _)⟩
  · cases hz
    obtain ⟨v, rfl, rv⟩ := hd.one
    obtain rfl := rv.strv
    exact SkE.call_str_str pins s σ H _ us Q I r ⟨_, rfl, k _ _ (Same.refl H) (.str _)⟩
  · cases hz
def gOrd : List D → Option D
  | [.str x] => match x.cps.toList with
    | [c] => some (.int c)
    | _ => none
  | _ => none
theorem cOrd : CallR X (.builtin "ord") (cD X.F gOrd) := by
  intro pins s σ H vs us Q I r ⟨ds, z, hd, hz, k⟩
  unfold gOrd at hz
  split at hz
  · split at hz
    · rename_i c hc
      cases hz
      obtain ⟨v, rfl, rv⟩ := hd.one
      obtain rfl := rv.strv
      have hx := str_one hc
      subst hx
      exact call_ord pins s σ H _ us Q I r ⟨_, rfl, rfl, k _ _ (Same.refl H) (.int _)⟩
    · cases hz
  · cases hz
/-! ### isinstance -/
def tyName : D → String
  | .none => "NoneType"
  | .bool _ => "bool"
  | .int _ => "int"
  | .str _ => "str"
  | .list _ => "list"
  | .tuple _ => "tuple"
  | .dict _ => "dict"
def dIs (T : String) : D → Option D
  | .none => some (.bool false)
  | .bool _ => some (.bool (T == "int" || T == "bool"))
  | .int _ => some (.bool (T == "int"))
  | .str _ => some (.bool (T == "str"))
  | .list _ => some (.bool (T == "list"))
  | .tuple _ => some (.bool (T == "tuple"))
  | .dict _ => none
/-- the five types asked for -/
def IsTy (T : String) : Prop := T = "int" ∨ T = "bool" ∨ T = "str" ∨ T = "list" ∨ T = "tuple"
theorem tyx_of {K : Fg} {H : Hp} {v : V} {d : D} (h : Rep K H v d) (n : ∀ kvs, d ≠ .dict kvs) : TyX K H v (.type (tyName d)) := by
  cases h with
  | non => exact .base .non
  | bl b => exact .base (.bl b)
  | int i => exact .base (.int i)
  | str x => exact .base (.str x)
  | lst h r =>
    rcases h with ⟨o, h⟩ | ⟨o, its, n, h, c, _⟩
    · exact .base (.frz h)
    · exact .kList h c
  | tup h r =>
    rcases h with (h | ⟨o, h⟩) | ⟨o, its, n, h, c, _⟩
    · exact .base (.tup h)
    · exact .fTuple h
    · exact .kTuple h c
  | dK h r => exact absurd rfl (n _)
  | dN h c q r => exact absurd rfl (n _)
  | ins h c r => exact absurd rfl (n _)
  | fn h => exact absurd rfl (n _)
theorem kit_is {K : Fg} {T : String} (hT : IsTy T) {d z : D} (h : dIs T d = some z) : ∃ b, z = .bool b ∧ PySem.W.kitOne K (.type (tyName d)) (.type T) = some b ∧ ∀ kvs, d ≠ .dict kvs := by
  rcases hT with rfl | rfl | rfl | rfl | rfl <;> cases d <;> first | (cases h; done) | (cases h; exact ⟨_, rfl, kit_ty (by simp only [tyName]; decide +kernel), fun _ z => (nomatch z)⟩)
theorem xis {T : String} {x : Str} {p p2 : Pos} (hT : IsTy T) (ha : PE X a (tD X.F f)) (hm : X.mg "isinstance" = none) (hmT : X.mg x = none) (hv : bootBuiltins x = some (.type T)) (hgT : Gl X x := by rfl) (hnT : x ≠ "__name__" := by decide) (hdT : (x == ("__debug__" : Str)) = false := by decide) (hg : Gl X "isinstance" := by rfl) (hv2 : bootBuiltins "isinstance" = some (.builtin "isinstance") := by decide +kernel)
    (he : starEach [a, .Name x p2] X.env = (false, eval a X.env) :: starEach [.Name x p2] X.env := by rfl) (hpl : (backTo pos (starEach [.Name x p2] X.env)).any (·.1) = false := by rfl) (he2 : starEach [.Name x p2] X.env = (false, eval (.Name x p2) X.env) :: starEach [] X.env := by rfl) :
    PE X (.Call (.Name "isinstance" p) [a, .Name x p2] [] pos) (tD X.F (eUn (dIs T) f)) := by
  refine (pe_callB call_isi hg hm hv2 (pa_cons ha (pa_cons (pe_bltn (v := .ty T) hgT hmT hv rfl hnT hdT) pa_nil he2) he) (by decide) (by decide) he hpl).imp fun σ H Q q => ?_
  obtain ⟨fx, ss, d, s3, fr, e, k⟩ := q
  obtain ⟨y, s1, e1, e⟩ := bind_ok e
  obtain ⟨eg, rfl⟩ := of_ok e
  refine ⟨fx, ss, y, _, fr, e1, fun v H1 k1 f1 r1 => ?_⟩
  obtain ⟨bb, rfl, h1, h2⟩ := kit_is (K := X.F) hT eg
  exact ⟨v, .ty T, _, _, bb, rfl, .ty T, tyx_of r1 h2, h1, k _ _ k1 f1 (.bl _)⟩
/-! ### sorted -/
def sortOk (ds : List D) : Bool :=
  ds.all fun d => ds.all fun e => alike d e
def sortKind (ds : List D) : Bool :=
  (ds.all fun d => match d with | .tuple (_ :: _) => true | _ => false) || ds.all fun d => match d with | .none => false | .tuple _ => false | _ => true
theorem sortKind_of {ds : List D} (h : sortKind ds = true) : PySem.W.Sortable ds := by
  unfold sortKind at h
  rw [Bool.or_eq_true] at h
  rcases h with h | h
  · refine .inl fun d hd => ?_
    have q := List.all_eq_true.mp h d hd
    cases d with
    | tuple xs => cases xs with
      | nil => simp at q
      | cons x r => exact ⟨x, r, rfl⟩
    | _ => simp at q
  · refine .inr fun d hd => ?_
    have q := List.all_eq_true.mp h d hd
    cases d <;> simp at q <;> exact ⟨fun z => (nomatch z), fun _ z => (nomatch z)⟩
abbrev sortD (ds : List D) : List D := ds.mergeSort (PySem.W.dataLe false id)
def gSorted : List D → Option O
  | [.list ds] => if sortOk ds = true ∧ sortKind ds = true ∧ PyData.plainAll ds = true ∧ PyData.depthAll ds ≤ 60 then some (.lst (sortD ds)) else none
  | [d] => match kvsOf d with
    | some (_, kvs) => if sortOk (kvs.map (·.1)) = true ∧ sortKind (kvs.map (·.1)) = true ∧ PyData.plainAll (kvs.map (·.1)) = true ∧ PyData.depthAll (kvs.map (·.1)) ≤ 60 then some (.lst (sortD (kvs.map (·.1)))) else none
    | none => none
  | _ => none
theorem depth_mem : ∀ {ds : List D} {d : D}, d ∈ ds → d.depth ≤ PyData.depthAll ds
  | x :: xs, d, h => by
    rw [PyData.depthAll]
    rcases List.mem_cons.mp h with rfl | h
    · exact Nat.le_max_left _ _
    · exact Nat.le_trans (depth_mem h) (Nat.le_max_right _ _)
theorem each_of {pins : List (Addr × Obj)} {σ : St} {H : Hp} {s : Shared} (I : Inv X pins σ H s) : ∀ {vs : List V} {us : List Value} {ds : List D}, RepAll X.F H vs ds → Vals vs us → PyData.plainAll ds = true →
    EachIs (fun u d => ∃ v, RelV v u ∧ Rep X.F H v d) us ds ∧ EachIs (fun u d => ∃ as, Reads s.heap u (id d) as) us ds
  | _, _, _, .nil, .nil, _ => ⟨.nil, .nil⟩
  | _, _, _, .cons h r, .cons rv rr, n => by
    rw [PyData.plainAll, Bool.and_eq_true] at n
    obtain ⟨e1, e2⟩ := each_of I r rr n.2
    exact ⟨.cons ⟨_, rv, h⟩ e1, .cons (Rep.reads (X := X) h I n.1 rv) e2⟩
theorem each_back {H : Hp} {K : Fg} : ∀ {us : List Value} {ds : List D}, EachIs (fun u d => ∃ v, RelV v u ∧ Rep K H v d) us ds → ∃ vs, Vals vs us ∧ RepAll K H vs ds
  | _, _, .nil => ⟨[], .nil, .nil⟩
  | _, _, .cons ⟨v, h1, h2⟩ t => by
    obtain ⟨vs, g1, g2⟩ := each_back t
    exact ⟨v :: vs, .cons h1 g1, .cons h2 g2⟩
def rKeysS (K : Fg) : List V → Hp → VK → Prop := fun vs H Q => ∃ (a : Addr) (n : Bool) (kvs : List (D × D)), vs = [.ref a] ∧ DAt K H a n kvs ∧ (sortOk (kvs.map (·.1)) = true ∧ sortKind (kvs.map (·.1)) = true ∧ PyData.plainAll (kvs.map (·.1)) = true ∧ PyData.depthAll (kvs.map (·.1)) ≤ 60) ∧
  ∀ p H', H p = none → Same H H' → OwnAt K H' p (.lst (sortD (kvs.map (·.1)))) → Q (.ref p) H'
theorem cSortedDict (hcalm : X.calm = true) (hu : X.A.units + 64 < cLine) : CallR X (.builtin "sorted") (rKeysS X.F) := by
  intro pins s σ H vs us Q I r ⟨a, n, kvs, ex, g, hc, k⟩
  subst ex
  rw [Vals.ref1 r]
  obtain ⟨lo, es, ep, hraw, hsz, hsl, ks, _, rk, _, hks⟩ := da_raw I g
  refine Calls.call_function_entry PyProof.Rows.kind_sorted PyProof.Rows.plain_sorted PyProof.Rows.entry_sorted (PyProof.Rows.args_sorted1 _) ?_
  unfold Builtin.«sorted»
  refine wpAny_bind (m := checkCount "sorted" 1 1 _) (wpAny_pure ?_)
  refine wpAny_bind (PySem.W.kdu_collect (A := X.A.in1) (KdlSrc.rawDict lo) (I.ok.hd hcalm) hraw hsl fun h' tk acc hk hacc => ?_)
  have hlk : ks.length = kvs.length := by rw [rk.len, List.length_map]
  have hal : acc.toList.length = ks.length := by rw [Array.length_toList, hacc.1, hsz, hlk]
  have hV : Vals ks acc.toList := vals_nth hal fun j u e => by
    obtain ⟨hi, rfl⟩ := hacc.2 j u (by rw [← Array.getElem?_toList]; exact e)
    obtain ⟨k', v', q1, _, q3, _⟩ := hks j hi
    exact ⟨k', q1, q3⟩
  have I1 : Inv X pins σ H { s with heap := h', toks := tk } := I.kept hk
  have hzl : ks.length ≤ sizeLine := by rw [hlk, ← hsz]; exact hsl
  refine wpAny_bind (wpAny_newList ?_ (by rw [hal]; exact hzl))
  have hoL : (h'.push (seqObj "list" acc.toList.toArray 0)).get? h'.objs.size = some (seqObj "list" acc.toList.toArray 0) := Heap.get?_push_size _ rfl
  show wpAny _ _ _ _ _ { s with heap := h'.push (seqObj "list" acc.toList.toArray 0), toks := tk }
  obtain ⟨e1, e2⟩ := each_of I1 rk hV hc.2.2.1
  have hal2 : PySem.W.AllAlike ((kvs.map (·.1)).map id) := fun d hd d' hd' => by
    rw [List.map_id] at hd hd'
    exact List.all_eq_true.mp (List.all_eq_true.mp hc.1 d hd) d' hd'
  have hks2 : PySem.W.Sortable ((kvs.map (·.1)).map id) := by rw [List.map_id]; exact sortKind_of hc.2.1
  have er' : EachIs (fun v b => ∃ as, Reads (PySem.W.sortingHeap (h'.push (seqObj "list" acc.toList.toArray 0)) h'.objs.size acc.toList) v (id b) as) acc.toList (kvs.map (·.1)) := e2.mono fun u b ⟨as, r⟩ => ⟨as, PyProof.Rows.Reads.keeps (fun c o q => by
    have hb : c < h'.objs.size := Heap.lt_size q
    exact PySem.W.sortingHeap_old (Nat.ne_of_lt hb) (Heap.get?_push_of_some _ q)) r⟩
  refine wpAny_bind (wpAny_holding (wpAny_call_entry PyProof.Rows.slot_list_sort ⟨_, hoL, rfl⟩ PyProof.Rows.entry_list_sort
    (PySem.W.list_sort_vals (s := { s with heap := h'.push (seqObj "list" acc.toList.toArray 0), toks := tk }) hoL (PySem.W.SortsAt.data (s := { s with heap := PySem.W.sortingHeap (h'.push (seqObj "list" acc.toList.toArray 0)) h'.objs.size acc.toList, toks := tk }) (PySem.W.each_map (R := fun v d => ∃ as, Reads (PySem.W.sortingHeap (h'.push (seqObj "list" acc.toList.toArray 0)) h'.objs.size acc.toList) v d as) id er') hal2 hks2 fun d hd => ?_) (by rw [hal]; exact hzl) ⟨_, rfl, ?_⟩) (PyProof.Rows.args_list_sort _)))
  · rw [List.map_id] at hd
    have := depth_mem hd
    show X.A.units + 2 + d.depth < cLine
    omega
  have eo := PySem.W.sortVals_data false e1 er' hal2
  obtain ⟨zs, q1, q2⟩ := each_back eo
  obtain ⟨e', he'⟩ := PyProof.Rows.sortedHeap_at (vs := acc.toList) (out := (PySem.W.sortVals (PySem.W.dataKind (PySem.W.sortingHeap (h'.push (seqObj "list" acc.toList.toArray 0)) h'.objs.size acc.toList) ((kvs.map (·.1)).map id)) false acc.toList acc.toList).toArray) hoL
  have hlen : zs.length ≤ sizeLine := by
    rw [q1.length, PySem.W.sortVals_length false rfl, hal]
    exact hzl
  refine wpAny_pure ⟨_, rfl, .ref h'.objs.size, upd H h'.objs.size (.lst zs), I1.laid (t' := tk) (fun b u e => ?_) (Nat.le_refl _)
    (show ObjOk X.prog X.w _ _ _ (.lst zs) from ⟨hlen, _, e', q1, he'⟩), rfl, k _ _ (I1.hok.fresh (Nat.le_refl _)) (same_new (I1.hok.fresh (Nat.le_refl _))) ⟨zs, upd_same, q2.kp (.same (same_new (I1.hok.fresh (Nat.le_refl _))))⟩⟩
  have hb : b < h'.objs.size := Heap.lt_size e
  rw [PyProof.Rows.sortedHeap_old (Nat.ne_of_lt hb) (by rw [size_push']; exact Nat.lt_succ_of_lt hb)]
  exact Heap.get?_push_of_some _ e
theorem cSortedN (hcalm : X.calm = true) (hu : X.A.units + 64 < cLine) : CallR X (.builtin "sorted") (cDN X.F gSorted) := by
  intro pins s σ H vs us Q I r ⟨ds, z, hd, hz, k⟩
  unfold gSorted at hz
  split at hz
  · rename_i xs
    split at hz
    · rename_i hc
      cases hz
      obtain ⟨v, rfl, rv⟩ := hd.one
      obtain ⟨a, ws, rfl, h1, r1⟩ := rv.lstv
      obtain ⟨its, rw_, hl, hzl⟩ := I.list h1.sq
      rw [Vals.ref1 r]
      obtain ⟨e1, e2⟩ := each_of I r1 rw_ hc.2.2.1
      have hal : PySem.W.AllAlike (xs.map id) := fun d hd d' hd' => by
        rw [List.map_id] at hd hd'
        exact List.all_eq_true.mp (List.all_eq_true.mp hc.1 d hd) d' hd'
      refine PySem.W.sorted_data (enc := id) hl.isList e1 e2 hal (by rw [List.map_id]; exact sortKind_of hc.2.1) (by rw [← r1.len]; exact hzl) (fun d hd => ?_) fun out hlen hout => ?_
      · have := depth_mem hd
        show X.A.units + 2 + d.depth < cLine
        omega
      · obtain ⟨zs, q1, q2⟩ := each_back hout
        obtain ⟨ep, he'⟩ := PyProof.Rows.sortedAll_at s.heap its out.toArray
        have hzs : zs.length ≤ sizeLine := by rw [q1.length, hlen, ← r1.len]; exact hzl
        exact ⟨.ref _, upd H (s.heap.objs.size + 1) (.lst zs), I.laid (t' := s.toks) (fun _ _ => PyProof.Rows.sortedAll_old) (Nat.le_succ _) ⟨hzs, out, ep, q1, he'⟩, rfl,
          k _ _ (I.hok.fresh (Nat.le_succ _)) (same_new (I.hok.fresh (Nat.le_succ _))) ⟨zs, upd_same, q2.kp (.same (same_new (I.hok.fresh (Nat.le_succ _))))⟩⟩
    · cases hz
  · split at hz
    · rename_i n kvs he
      split at hz
      · rename_i hc
        cases hz
        obtain ⟨v, rfl, rv⟩ := hd.one
        obtain ⟨a, rfl, g⟩ := rv.dat he
        exact cSortedDict hcalm hu pins s σ H _ us Q I r ⟨a, n, kvs, rfl, g, hc, k⟩
      · cases hz
    · cases hz
  · cases hz
end
end Dt

/-! Dt7: what is walked; list comprehensions, by data. -/
namespace Dt
open PySem PySem.Spec L2
open PyProof.Rows hiding St
open RZ
/-! ### a frame's objects lent to a block -/
def lendS : Sl → Sl
  | .own o => .bor o
  | s => s
def lend (ss : SS) : SS := ss.map lendS
def unlendS (a b : Sl) : Sl := match a, b with
  | .own _, .bor o => .own o
  | .bor _, .bor o => .bor o
  | _, .imm d => .imm d
  | _, _ => .un
def unlend (a b : SS) : SS := List.zipWith unlendS a b
def fxr (ss : SS) (σ : St) (H : Hp) : Fx := ⟨H, fun i => match (ss[i]?).bind Sl.obj, σ[i]? with
  | some _, some (some (.ref p)) => some p
  | _, _ => none⟩
theorem fxr_some {ss : SS} {σ : St} {H : Hp} {i : Nat} {p : Addr} (h : (fxr ss σ H).P i = some p) : ∃ s o, ss[i]? = some s ∧ s.obj = some o ∧ σ[i]? = some (some (.ref p)) := by
  unfold fxr at h
  simp only at h
  split at h
  · rename_i o q ho hs
    cases h
    obtain ⟨s, a, b⟩ := Option.bind_eq_some_iff.mp ho
    exact ⟨s, o, a, b, hs⟩
  · cases h
theorem fxr_of {ss : SS} {σ : St} {H : Hp} {i : Nat} {p : Addr} {s : Sl} {o : O} (h1 : ss[i]? = some s) (h2 : s.obj = some o) (h3 : σ[i]? = some (some (.ref p))) : (fxr ss σ H).P i = some p := by
  unfold fxr
  simp only [h1, h3, Option.bind_some, h2]
theorem lend_get {ss : SS} {i : Nat} {s : Sl} (h : (lend ss)[i]? = some s) : ∃ t, ss[i]? = some t ∧ s = lendS t := by
  unfold lend at h
  rw [List.getElem?_map] at h
  obtain ⟨t, a, b⟩ := Option.map_eq_some_iff.mp h
  exact ⟨t, a, b.symm⟩
theorem lend_obj (t : Sl) : (lendS t).obj = t.obj := by cases t <;> rfl
section
variable {K : Fg} {fx : Fx} {ss s2 : SS} {σ : St} {H H2 : Hp}
theorem FR.lend (f : FR K fx ss σ H) : FR K (fxr ss σ H) (lend ss) σ H := by
  refine ⟨by rw [Dt.lend, List.length_map]; exact f.len, Kp.refl H, fun a o e _ => e, fun a e => e, fun i sl e => ?_, fun i j p si sj oi oj ei ej eoi eoj hi hj => ?_⟩
  · obtain ⟨t, a, rfl⟩ := lend_get e
    have q := f.slot i t a
    cases t with
    | un => trivial
    | imm d => exact q
    | own o => obtain ⟨p, b, c, d⟩ := q; exact ⟨p, b, c, fxr_of a rfl b⟩
    | bor o => obtain ⟨p, b, c, d⟩ := q; exact ⟨p, b, c, fxr_of a rfl b⟩
  · obtain ⟨t, a, rfl⟩ := lend_get ei
    obtain ⟨u, b, rfl⟩ := lend_get ej
    exact f.dis i j p t u oi oj a b ((lend_obj t).symm.trans eoi) ((lend_obj u).symm.trans eoj) hi hj
theorem unlend_get {i : Nat} {s : Sl} (h : (unlend ss s2)[i]? = some s) : ∃ t u, ss[i]? = some t ∧ s2[i]? = some u ∧ s = unlendS t u := by
  unfold unlend at h
  rw [List.getElem?_zipWith] at h
  split at h
  · rename_i t u a b
    exact ⟨t, u, a, b, (Option.some.inj h).symm⟩
  · cases h
theorem unlend_obj {t u : Sl} {o : O} (h : (unlendS t u).obj = some o) : u = .bor o ∧ ((∃ x, t = .own x) ∨ ∃ x, t = .bor x) := by
  cases t <;> cases u <;> first | (cases h; done) | (cases h; exact ⟨rfl, .inl ⟨_, rfl⟩⟩) | (cases h; exact ⟨rfl, .inr ⟨_, rfl⟩⟩)
theorem FR.unlend {τ : St} (f : FR K fx ss σ H) (g : FR K (fxr ss σ H) s2 τ H2) (k : Kp H H2) (hl : τ.length = σ.length := by rfl) : FR K fx (unlend ss s2) τ H2 := by
  refine ⟨?_, f.kp.trans k, fun a o e hP => g.rest a o (f.rest a o e hP) fun i z => ?_, fun a e => f.there a (g.there a e), fun i sl e => ?_, fun i j p si sj oi oj ei ej eoi eoj hi hj => ?_⟩
  · have h1 := f.len
    have h2 := g.len
    unfold Dt.unlend
    rw [List.length_zipWith]
    omega
  · obtain ⟨s, o', h1, h2, h3⟩ := fxr_some z
    obtain ⟨p, a1, a2, a3⟩ := (f.slot i s h1).obj h2
    rw [h3] at a1
    cases a1
    rcases a3 with a3 | a3
    · rw [e] at a3; cases a3
    · exact hP i a3
  · obtain ⟨t, u, a, b, rfl⟩ := unlend_get e
    have q1 := f.slot i t a
    have q2 := g.slot i u b
    cases t with
    | un => cases u <;> first | exact q2 | trivial
    | imm d => cases u <;> first | exact q2 | trivial
    | own o => cases u with
      | un => trivial
      | imm d => exact q2
      | own x => trivial
      | bor x =>
        obtain ⟨p, a1, a2, a3⟩ := q1
        obtain ⟨p2, b1, b2, b3⟩ := q2
        obtain ⟨_, _, _, _, z⟩ := fxr_some b3
        rw [a1] at z
        cases z
        exact ⟨p, b1, b2, a3⟩
    | bor o => cases u with
      | un => trivial
      | imm d => exact q2
      | own x => trivial
      | bor x =>
        obtain ⟨p, a1, a2, a3⟩ := q1
        obtain ⟨p2, b1, b2, b3⟩ := q2
        obtain ⟨_, _, _, _, z⟩ := fxr_some b3
        rw [a1] at z
        cases z
        exact ⟨p, b1, b2, a3⟩
  · obtain ⟨t, u, a, b, rfl⟩ := unlend_get ei
    obtain ⟨t', u', a', b', rfl⟩ := unlend_get ej
    obtain ⟨rfl, _⟩ := unlend_obj eoi
    obtain ⟨rfl, _⟩ := unlend_obj eoj
    exact g.dis i j p _ _ oi oj b b' rfl rfl hi hj
/-- what is lent are slots of ours -/
theorem unlend_old {i : Nat} {s : Sl} {o : O} (h : (unlend ss s2)[i]? = some s) (ho : s.obj = some o) : ∃ t u, ss[i]? = some t ∧ t.obj = some u := by
  obtain ⟨t, u, a, b, rfl⟩ := unlend_get h
  rcases unlend_obj ho with ⟨_, ⟨x, rfl⟩ | ⟨x, rfl⟩⟩
  · exact ⟨_, x, a, rfl⟩
  · exact ⟨_, x, a, rfl⟩
/-! ### slots forgotten, and given back -/
def wipeS (ss : SS) : List Nat → SS
  | [] => ss
  | v :: vs => (wipeS ss vs).set v .un
theorem FR.wipe (f : FR K fx ss σ H) : ∀ vs : List Nat, FR K fx (wipeS ss vs) (L2.wipe σ vs) H
  | [] => f
  | v :: vs => (f.wipe vs).un
def keepS : Sl → Sl
  | .imm d => .imm d
  | _ => .un
def backF (vs : List Nat) : Nat → SS → SS → SS
  | i, s :: ss, t :: ts => (if i ∈ vs then keepS s else t) :: backF vs (i + 1) ss ts
  | _, _, _ => []
def backS (vs : List Nat) (ss s2 : SS) : SS := backF vs 0 ss s2
theorem backF_get {vs : List Nat} : ∀ {i : Nat} {ss ts : SS} {j : Nat} {x : Sl}, (backF vs i ss ts)[j]? = some x → ∃ s t, ss[j]? = some s ∧ ts[j]? = some t ∧ x = if i + j ∈ vs then keepS s else t
  | i, s :: ss, t :: ts, 0, x, h => ⟨s, t, rfl, rfl, (Option.some.inj h).symm⟩
  | i, s :: ss, t :: ts, j + 1, x, h => by
    obtain ⟨u, w, a, b, c⟩ := backF_get (i := i + 1) (ss := ss) (ts := ts) (j := j) h
    exact ⟨u, w, a, b, by rw [c, Nat.add_assoc, Nat.add_comm 1 j]⟩
  | i, [], ts, j, x, h => by cases ts <;> cases h
  | i, s :: ss, [], j, x, h => by cases h
theorem backF_len {vs : List Nat} : ∀ {i : Nat} {ss ts : SS}, ss.length = ts.length → (backF vs i ss ts).length = ss.length
  | i, s :: ss, t :: ts, h => congrArg (· + 1) (backF_len (i := i + 1) (Nat.succ.inj h))
  | i, [], [], h => rfl
  | i, [], t :: ts, h => by cases h
  | i, s :: ss, [], h => by cases h
/-- the block's own slots stand as they stood -/
theorem FR.back {vs : List Nat} (f : FR K fx ss σ H) (k : Kp H H2) (g : FR K fx s2 (L2.wipe σ vs) H2) : FR K fx (backS vs ss s2) σ H2 := by
  have l1 := f.len
  have l2 := g.len
  rw [wipe_length] at l2
  have get : ∀ (j : Nat) (x : Sl), (backS vs ss s2)[j]? = some x → (∃ s, ss[j]? = some s ∧ x = keepS s) ∨ (j ∉ vs ∧ s2[j]? = some x) := fun j x h => by
    obtain ⟨s, t, a, b, c⟩ := backF_get h
    rw [Nat.zero_add] at c
    by_cases hj : j ∈ vs
    · rw [if_pos hj] at c
      exact .inl ⟨s, a, c⟩
    · rw [if_neg hj] at c
      exact .inr ⟨hj, by rw [b, c]⟩
  have same : ∀ j, j ∉ vs → (L2.wipe σ vs)[j]? = σ[j]? := fun j h => by rw [wipe_get, if_neg h]
  refine ⟨?_, g.kp, g.rest, g.there, fun i sl e => ?_, fun i j p si sj oi oj ei ej eoi eoj hi hj => ?_⟩
  · unfold backS
    rw [backF_len (by omega)]
    exact l1
  · rcases get i sl e with ⟨s, a, rfl⟩ | ⟨n, a⟩
    · have q := f.slot i s a
      cases s with
      | imm d => obtain ⟨v, b, c⟩ := q; exact ⟨v, b, c.kp k⟩
      | un => trivial
      | own o => trivial
      | bor o => trivial
    · have q := g.slot i sl a
      rw [same i n] at q
      exact q
  · rcases get i si ei with ⟨s, a, rfl⟩ | ⟨n, a⟩
    · cases s <;> cases eoi
    · rcases get j sj ej with ⟨s, b, rfl⟩ | ⟨m, b⟩
      · cases s <;> cases eoj
      · exact g.dis i j p si sj oi oj a b eoi eoj (by rw [same i n]; exact hi) (by rw [same j m]; exact hj)
theorem wipeS_old : ∀ {vs : List Nat} {i : Nat} {s : Sl} {o : O}, (wipeS ss vs)[i]? = some s → s.obj = some o → ss[i]? = some s
  | [], _, _, _, h, _ => h
  | v :: vs, i, s, o, h, ho => by
    rcases get_set_eq h with ⟨rfl, rfl⟩ | ⟨_, h⟩
    · cases ho
    · exact wipeS_old h ho
end
/-! ### comprehensions -/
def turnF (vs : List Nat) (g : GF) (t : FB) (e : FE) (d : D) (ss : SS) : Option (Option D × SS) :=
  match g d (lend ss) with
  | none => none
  | some s1 => match t s1 with
    | .no => none
    | .ok false s2 => some (none, unlend ss (wipeS s2 vs))
    | .ok true s2 => match e s2 with
      | .no => none
      | .ok x s3 => some (some x, unlend ss (wipeS s3 vs))
def compF (vs : List Nat) (g : GF) (t : FB) (e : FE) : List D → SS → Option (List D × SS)
  | [], ss => some ([], ss)
  | d :: r, ss => match turnF vs g t e d ss with
    | none => none
    | some (o, s1) => match compF vs g t e r s1 with
      | none => none
      | some (xs, s2) => some (o.toList ++ xs, s2)
def nLc (vs : List Nat) (src : FL) (g : GF) (t : FB) (e : FE) : FN := fun ss => (src ss).bind fun ds s1 =>
  match compF vs g t e ds (wipeS s1 vs) with
    | some (xs, s2) => if xs.length ≤ sizeLine then .ok (.lst xs) (backS vs s1 s2) else .no
    | none => .no
def bYes : FB := fun ss => .ok true ss
section
variable {X : Cx}
theorem tyes : PTs X [] (tT X.F bYes) := ⟨fun pins s σ H Q I q => pts_nil.run pins s σ H Q I (by
  obtain ⟨fx, ss, b, s1, f, e, k⟩ := q
  cases e
  exact k H (Kp.refl H) f)⟩
theorem wipe_wipe {σ : St} {vs : List Nat} : L2.wipe (L2.wipe σ vs) vs = L2.wipe σ vs := by
  apply List.ext_getElem?
  intro j
  rw [wipe_get, wipe_get, wipe_length]
  by_cases h : j ∈ vs
  · rw [if_pos h, if_pos h]
  · rw [if_neg h, if_neg h]
/-- one loop of a comprehension; Dl: the list that is made -/
theorem loop_read {vs : List Nat} {gg : GF} {t : FB} {e : FE} {σ : St} {H1 : Hp} {K : Fg} {fx : Fx} {sI sE : SS} {ds xs acc0 : List D} {a0 : List V} {Dl : Addr} {J : It} {R : Hp → Prop} (w : Walk K J ds H1) (fw : FR K fx sI (L2.wipe σ vs) H1) (nw : NewAt fx sI (L2.wipe σ vs) Dl)
    (hD : H1 Dl = some (.lst a0)) (r0 : RepAll K H1 a0 acc0) (hcomp : compF vs gg t e ds sI = some (xs, sE)) (hsz : acc0.length + xs.length ≤ sizeLine)
    (hR : ∀ H2 a1, Kp H1 H2 → FR K fx sE (L2.wipe σ vs) H2 → (∀ (j : Nat) (s : Sl) (o : O), sE[j]? = some s → s.obj = some o → ∃ t u, sI[j]? = some t ∧ t.obj = some u) → H2 Dl = some (.lst a1) → RepAll K H2 a1 (acc0 ++ xs) → R H2) :
    ∃ W : Nat → Nat → Hp → Prop, (∃ m, W 0 m H1) ∧ ∀ i m H, W i m H → (J.stop i H ∧ R H) ∨ (J.go i H ∧ ∃ Nx : Hp → Prop, (∀ H', Nx H' → ∃ m', m' < m ∧ W (i + 1) m' H') ∧ ∀ x H', J.yld i H x H' → gD K gg vs x (L2.wipe σ vs) H' fun σ2 H2 => L2.wipe σ2 vs = L2.wipe σ vs ∧ tT K t σ2 H2 fun b H3 =>
      if b = true then tD K e σ2 H3 fun y H4 => ∃ acc, H4 Dl = some (.lst acc) ∧ acc.length < sizeLine ∧ Nx (upd H4 Dl (.lst (acc ++ [y]))) else Nx H3) := by
  refine ⟨fun i m H2 => m = ds.length - i ∧ i ≤ ds.length ∧ Kp H1 H2 ∧ ∃ ssi dn accV rest, FR K fx ssi (L2.wipe σ vs) H2 ∧ (∀ (j : Nat) (s : Sl) (o : O), ssi[j]? = some s → s.obj = some o → ∃ t u, sI[j]? = some t ∧ t.obj = some u) ∧
      H2 Dl = some (.lst accV) ∧ RepAll K H2 accV (acc0 ++ dn) ∧ compF vs gg t e (ds.drop i) ssi = some (rest, sE) ∧ dn ++ rest = xs,
    ⟨ds.length, by omega, Nat.zero_le _, Kp.refl _, sI, [], a0, xs, fw, fun j s o a b => ⟨s, o, a, b⟩, hD, by rw [List.append_nil]; exact r0, hcomp, rfl⟩, fun i m H2 ⟨em, hle, k2, ssi, dn, accV, rest, f2, old, hDl, ra, hc2, hx⟩ => ?_⟩
  have nr : ∀ (j : Nat) (s : Sl) (o : O), ssi[j]? = some s → s.obj = some o → (L2.wipe σ vs)[j]? ≠ some (some (.ref Dl)) := fun j s o a b => by
    obtain ⟨t', u, c, d⟩ := old j s o a b
    exact nw.2 j t' u c d
  have wi := w i H2 k2
  by_cases hlt : i < ds.length
  · have ed : ds.drop i = ds[i] :: ds.drop (i + 1) := List.drop_eq_getElem_cons hlt
    rw [ed] at hc2
    unfold compF at hc2
    split at hc2
    · cases hc2
    rename_i oo sN hturn
    split at hc2
    · cases hc2
    rename_i xs' sE' hrest
    cases hc2
    obtain ⟨go, yl⟩ := wi.1 ds[i] (List.getElem?_eq_getElem hlt)
    refine .inr ⟨go, fun H5 => Kp H1 H5 ∧ ∃ ssi dn accV rest, FR K fx ssi (L2.wipe σ vs) H5 ∧ (∀ (j : Nat) (s : Sl) (o : O), ssi[j]? = some s → s.obj = some o → ∃ t u, sI[j]? = some t ∧ t.obj = some u) ∧
      H5 Dl = some (.lst accV) ∧ RepAll K H5 accV (acc0 ++ dn) ∧ compF vs gg t e (ds.drop (i + 1)) ssi = some (rest, sE) ∧ dn ++ rest = xs, fun H5 ⟨a, b⟩ => ⟨ds.length - (i + 1), by omega, rfl, hlt, a, b⟩, fun x H3 hy => ?_⟩
    obtain ⟨sm, rp⟩ := yl x H3 hy
    have f3 := f2.same sm
    have fl3 := f3.lend
    have hD3 : H3 Dl = some (.lst accV) := sm _ _ hDl
    have keepD : ∀ (s : SS) (τ : St) (H4 : Hp), FR K (fxr ssi (L2.wipe σ vs) H3) s τ H4 → H4 Dl = some (.lst accV) := fun s τ H4 g => g.rest Dl _ hD3 fun j z => by
      obtain ⟨s', o', a, b, c⟩ := fxr_some z
      exact nr j s' o' a b c
    have old2 : ∀ (s2 : SS) (j : Nat) (s : Sl) (o : O), (unlend ssi s2)[j]? = some s → s.obj = some o → ∃ t u, sI[j]? = some t ∧ t.obj = some u := fun s2 j s o a b => by
      obtain ⟨t', u, c, d⟩ := unlend_old a b
      exact old j t' u c d
    unfold turnF at hturn
    cases eg : gg ds[i] (lend ssi) with
    | none => rw [eg] at hturn; cases hturn
    | some s4 =>
      rw [eg] at hturn
      simp only at hturn
      refine ⟨_, lend ssi, ds[i], s4, fl3, rp, eg, fun σ2 H4 wq0 k4 f4 => ?_⟩
      have wq := wq0.trans wipe_wipe
      refine ⟨wq, ?_⟩
      cases et : t s4 with
      | no => rw [et] at hturn; cases hturn
      | ok b s5 =>
        rw [et] at hturn
        refine ⟨_, s4, b, s5, f4, et, fun H5 k5 f5 => ?_⟩
        have kk : Kp H2 H5 := (Kp.same sm).trans (k4.trans k5)
        cases b with
        | false =>
          simp only [Option.some.injEq, Prod.mk.injEq] at hturn
          obtain ⟨rfl, rfl⟩ := hturn
          refine iteF ⟨k2.trans kk, _, dn, accV, xs', ?_, old2 _, keepD _ _ _ f5, ra.kp kk, hrest, hx⟩
          have g5 := f5.wipe vs
          rw [wq] at g5
          exact f3.unlend g5 (k4.trans k5)
        | true =>
          simp only at hturn
          cases ee : e s5 with
          | no => rw [ee] at hturn; cases hturn
          | ok y s6 =>
            rw [ee] at hturn
            simp only [Option.some.injEq, Prod.mk.injEq] at hturn
            obtain ⟨rfl, rfl⟩ := hturn
            refine iteT ⟨_, s5, y, s6, f5, ee, fun v H6 k6 f6 r6 => ?_⟩
            have hD6 := keepD _ _ _ f6
            have k36 : Kp H3 H6 := (k4.trans k5).trans k6
            have k67 : Kp H6 (upd H6 Dl (.lst (accV ++ [v]))) := Kp.upd hD6 loose_lst
            have g6 := f6.wipe vs
            rw [wq] at g6
            have f7 := f3.unlend g6 k36
            have kall : Kp H2 H6 := (Kp.same sm).trans k36
            have hlen := congrArg List.length hx
            simp only [List.length_append, Option.toList_some, List.length_cons, List.length_nil] at hlen
            refine ⟨accV, hD6, ?_, (k2.trans kall).trans k67, _, dn ++ [y], accV ++ [v], xs', f7.lock ⟨nw.1, fun j s o a b => ?_⟩ hD6 loose_lst, old2 _, upd_same, ?_, hrest, ?_⟩
            · rw [ra.len, List.length_append]
              omega
            · obtain ⟨t', u, c, d⟩ := unlend_old a b
              exact nr j t' u c d
            · rw [← List.append_assoc]
              exact ((ra.kp kall).append (.cons r6 .nil)).kp k67
            · rw [List.append_assoc]
              exact hx
  · have ed : ds.drop i = [] := List.drop_eq_nil_of_le (by omega)
    rw [ed] at hc2
    unfold compF at hc2
    cases hc2
    rw [List.append_nil] at hx
    subst hx
    exact .inl ⟨wi.2 (by omega), hR H2 accV k2 f2 old hDl ra⟩
theorem back_new {vs : List Nat} {σ : St} {fx : Fx} {s1 sE : SS} {Dl : Addr} (n0 : fx.H0 Dl = none) (nr : ∀ (j : Nat) (s : Sl) (o : O), sE[j]? = some s → s.obj = some o → (L2.wipe σ vs)[j]? ≠ some (some (.ref Dl))) : NewAt fx (backS vs s1 sE) σ Dl := by
  refine ⟨n0, fun j s o a b => ?_⟩
  obtain ⟨s', t', a1, a2, a3⟩ := backF_get a
  rw [Nat.zero_add] at a3
  by_cases hj : j ∈ vs
  · rw [if_pos hj] at a3
    subst a3
    cases s' <;> cases b
  · rw [if_neg hj] at a3
    subst a3
    have q := nr j _ o a2 b
    rw [wipe_get, if_neg hj] at q
    exact q
theorem lc_read {vs : List Nat} {fl : FL} {gg : GF} {t : FB} {e : FE} {σ : St} {H : Hp} {Q : VK} {K : Fg} (q : tN K (nLc vs fl gg t e) σ H Q) : tLc (iD K fl) (gD K gg vs) (tT K t) (tD K e) vs σ H Q := by
  obtain ⟨fx, ss, o, s3, f, eq, k⟩ := q
  obtain ⟨ds, s1, e1, eq⟩ := bind_ok eq
  split at eq
  rotate_left
  · cases eq
  rename_i xs sE hcomp
  split at eq
  rotate_left
  · cases eq
  rename_i hsz
  cases eq
  refine ⟨fx, ss, ds, s1, f, e1, fun J H1 k1 f1 w Dl hD => ?_⟩
  have fw : FR K fx (wipeS s1 vs) (L2.wipe σ vs) H1 := f1.wipe vs
  have nw : NewAt fx (wipeS s1 vs) (L2.wipe σ vs) Dl := fw.newAt hD
  have k1' : Kp H1 (upd H1 Dl (.lst [])) := .same (same_new hD)
  refine loop_read (R := fun H2 => Q (.ref Dl) H2) (fun i H' kk => w i H' (k1'.trans kk)) (fw.new hD) nw upd_same (.nil : RepAll K _ [] []) hcomp (by simpa using hsz) fun H2 a1 k2 f2 old hDl ra => ?_
  have kk := k1'.trans k2
  exact k Dl H2 (k1.trans kk) (f1.back kk f2) ⟨a1, hDl, ra⟩ (back_new nw.1 fun j s o a b => by
    obtain ⟨t', u, c, d⟩ := old j s o a b
    exact nw.2 j t' u c d)
/-! two clauses -/
def turn2F (vs vs1 : List Nat) (g : GF) (t : FB) (src1 : FL) (g1 : GF) (t1 : FB) (e : FE) (d : D) (ss : SS) : Option (List D × SS) :=
  match g d (lend ss) with
  | none => none
  | some s1 => match t s1 with
    | .no => none
    | .ok false s2 => some ([], unlend ss (wipeS s2 vs))
    | .ok true s2 => match src1 s2 with
      | .no => none
      | .ok ds1 s3 => match compF vs1 g1 t1 e ds1 (wipeS (unlend ss s3) vs1) with
        | none => none
        | some (xs, sE) => some (xs, wipeS sE vs)
def comp2F (vs vs1 : List Nat) (g : GF) (t : FB) (src1 : FL) (g1 : GF) (t1 : FB) (e : FE) : List D → SS → Option (List D × SS)
  | [], ss => some ([], ss)
  | d :: r, ss => match turn2F vs vs1 g t src1 g1 t1 e d ss with
    | none => none
    | some (o, s1) => match comp2F vs vs1 g t src1 g1 t1 e r s1 with
      | none => none
      | some (xs, s2) => some (o ++ xs, s2)
def nLc2 (vs vs1 : List Nat) (src : FL) (g : GF) (t : FB) (src1 : FL) (g1 : GF) (t1 : FB) (e : FE) : FN := fun ss => (src ss).bind fun ds s1 =>
  match comp2F vs vs1 g t src1 g1 t1 e ds (wipeS s1 vs) with
    | some (xs, s2) => if xs.length ≤ sizeLine then .ok (.lst xs) (backS vs s1 s2) else .no
    | none => .no
theorem wipe_sub {σ τ : St} {vs vs1 : List Nat} (hv : ∀ i ∈ vs1, i ∈ vs) (h : L2.wipe σ vs1 = L2.wipe τ vs1) : L2.wipe σ vs = L2.wipe τ vs := by
  have hl : σ.length = τ.length := by
    have := congrArg List.length h
    rw [wipe_length, wipe_length] at this
    exact this
  apply List.ext_getElem?
  intro j
  rw [wipe_get, wipe_get, hl]
  by_cases hj : j ∈ vs
  · rw [if_pos hj, if_pos hj]
  · rw [if_neg hj, if_neg hj]
    have := congrArg (fun l => l[j]?) h
    simp only [wipe_get] at this
    rw [if_neg (fun z => hj (hv j z)), if_neg (fun z => hj (hv j z))] at this
    exact this
theorem lc2_read {vs vs1 : List Nat} {fl fl1 : FL} {gg gg1 : GF} {t t1 : FB} {e : FE} {σ : St} {H : Hp} {Q : VK} {K : Fg} (hv : ∀ i ∈ vs1, i ∈ vs) (q : tN K (nLc2 vs vs1 fl gg t fl1 gg1 t1 e) σ H Q) : tLc2 (iD K fl) (gD K gg vs) (tT K t) (iD K fl1) (gD K gg1 vs1) (tT K t1) (tD K e) vs vs1 σ H Q := by
  obtain ⟨fx, ss, o, s3, f, eq, k⟩ := q
  obtain ⟨ds, s1, e1, eq⟩ := bind_ok eq
  split at eq
  rotate_left
  · cases eq
  rename_i xs sE hcomp
  split at eq
  rotate_left
  · cases eq
  rename_i hsz
  cases eq
  refine ⟨fx, ss, ds, s1, f, e1, fun J H1 k1 f1 w Dl hD => ?_⟩
  have fw : FR K fx (wipeS s1 vs) (L2.wipe σ vs) H1 := f1.wipe vs
  have nw : NewAt fx (wipeS s1 vs) (L2.wipe σ vs) Dl := fw.newAt hD
  refine ⟨fun i m H2 => m = ds.length - i ∧ i ≤ ds.length ∧ Kp H1 H2 ∧ ∃ ssi dn accV rest, FR K fx ssi (L2.wipe σ vs) H2 ∧ (∀ (j : Nat) (s : Sl) (o : O), ssi[j]? = some s → s.obj = some o → ∃ t u, (wipeS s1 vs)[j]? = some t ∧ t.obj = some u) ∧
      H2 Dl = some (.lst accV) ∧ RepAll K H2 accV dn ∧ comp2F vs vs1 gg t fl1 gg1 t1 e (ds.drop i) ssi = some (rest, sE) ∧ dn ++ rest = xs,
    ⟨ds.length, by omega, Nat.zero_le _, .same (same_new hD), wipeS s1 vs, [], [], xs, fw.new hD, fun j s o a b => ⟨s, o, a, b⟩, upd_same, .nil, hcomp, rfl⟩, fun i m H2 ⟨em, hle, k2, ssi, dn, accV, rest, f2, old, hDl, ra, hc2, hx⟩ => ?_⟩
  have nr : ∀ (j : Nat) (s : Sl) (o : O), ssi[j]? = some s → s.obj = some o → (L2.wipe σ vs)[j]? ≠ some (some (.ref Dl)) := fun j s o a b => by
    obtain ⟨t', u, c, d⟩ := old j s o a b
    exact nw.2 j t' u c d
  have wi := w i H2 k2
  by_cases hlt : i < ds.length
  · have ed : ds.drop i = ds[i] :: ds.drop (i + 1) := List.drop_eq_getElem_cons hlt
    rw [ed] at hc2
    unfold comp2F at hc2
    split at hc2
    · cases hc2
    rename_i oo sN hturn
    split at hc2
    · cases hc2
    rename_i xs' sE' hrest
    cases hc2
    obtain ⟨go, yl⟩ := wi.1 ds[i] (List.getElem?_eq_getElem hlt)
    refine .inr ⟨go, fun H5 => Kp H1 H5 ∧ ∃ ssi dn accV rest, FR K fx ssi (L2.wipe σ vs) H5 ∧ (∀ (j : Nat) (s : Sl) (o : O), ssi[j]? = some s → s.obj = some o → ∃ t u, (wipeS s1 vs)[j]? = some t ∧ t.obj = some u) ∧
      H5 Dl = some (.lst accV) ∧ RepAll K H5 accV dn ∧ comp2F vs vs1 gg t fl1 gg1 t1 e (ds.drop (i + 1)) ssi = some (rest, sE) ∧ dn ++ rest = xs, fun H5 ⟨a, b⟩ => ⟨ds.length - (i + 1), by omega, rfl, hlt, a, b⟩, fun x H3 hy => ?_⟩
    obtain ⟨sm, rp⟩ := yl x H3 hy
    have f3 := f2.same sm
    have fl3 := f3.lend
    have hD3 : H3 Dl = some (.lst accV) := sm _ _ hDl
    have keepD : ∀ (s : SS) (τ : St) (H4 : Hp), FR K (fxr ssi (L2.wipe σ vs) H3) s τ H4 → H4 Dl = some (.lst accV) := fun s τ H4 g => g.rest Dl _ hD3 fun j z => by
      obtain ⟨s', o', a, b, c⟩ := fxr_some z
      exact nr j s' o' a b c
    unfold turn2F at hturn
    cases eg : gg ds[i] (lend ssi) with
    | none => rw [eg] at hturn; cases hturn
    | some s4 =>
      rw [eg] at hturn
      simp only at hturn
      refine ⟨_, lend ssi, ds[i], s4, fl3, rp, eg, fun σ2 H4 wq0 k4 f4 => ?_⟩
      have wq := wq0.trans wipe_wipe
      refine ⟨wq, ?_⟩
      cases et : t s4 with
      | no => rw [et] at hturn; cases hturn
      | ok b s5 =>
        rw [et] at hturn
        refine ⟨_, s4, b, s5, f4, et, fun H5 k5 f5 => ?_⟩
        have kk : Kp H2 H5 := (Kp.same sm).trans (k4.trans k5)
        cases b with
        | false =>
          simp only [Option.some.injEq, Prod.mk.injEq] at hturn
          obtain ⟨rfl, rfl⟩ := hturn
          refine iteF ⟨k2.trans kk, _, dn, accV, xs', ?_, fun j s o a b => ?_, keepD _ _ _ f5, ra.kp kk, hrest, hx⟩
          · have g5 := f5.wipe vs
            rw [wq] at g5
            exact f3.unlend g5 (k4.trans k5)
          · obtain ⟨t', u, c, d⟩ := unlend_old a b
            exact old j t' u c d
        | true =>
          simp only at hturn
          cases e4 : fl1 s5 with
          | no => rw [e4] at hturn; cases hturn
          | ok ds1 s6 =>
            rw [e4] at hturn
            simp only at hturn
            cases e5 : compF vs1 gg1 t1 e ds1 (wipeS (unlend ssi s6) vs1) with
            | none => rw [e5] at hturn; cases hturn
            | some pr =>
              obtain ⟨xs1, sE1⟩ := pr
              rw [e5] at hturn
              simp only [Option.some.injEq, Prod.mk.injEq] at hturn
              obtain ⟨rfl, rfl⟩ := hturn
              refine iteT ⟨_, s5, ds1, s6, f5, e4, fun J1 H6 k6 f6 w1 => ?_⟩
              have k36 : Kp H3 H6 := (k4.trans k5).trans k6
              have kall : Kp H2 H6 := (Kp.same sm).trans k36
              have l2 : σ2.length = (L2.wipe σ vs).length := by
                have := congrArg List.length wq
                rw [wipe_length, wipe_length] at this
                rw [wipe_length]
                exact this
              have fO := f3.unlend f6 k36 l2
              have fI := fO.wipe vs1
              have hD6 := keepD _ _ _ f6
              have hlen := congrArg List.length hx
              simp only [List.length_append] at hlen
              have oldO : ∀ (j : Nat) (s : Sl) (o : O), (unlend ssi s6)[j]? = some s → s.obj = some o → ∃ t u, ssi[j]? = some t ∧ t.obj = some u := fun j s o a b => unlend_old a b
              have nI : NewAt fx (wipeS (unlend ssi s6) vs1) (L2.wipe σ2 vs1) Dl := by
                refine ⟨nw.1, fun j s o a b z => ?_⟩
                have a' := wipeS_old a b
                obtain ⟨t', u, c, d⟩ := unlend_old a' b
                refine nr j t' u c d ?_
                obtain ⟨t2, u2, a2, b2, e2⟩ := unlend_get a'
                rw [e2] at b
                obtain ⟨e3, _⟩ := unlend_obj b
                rw [e3] at b2
                obtain ⟨p, p1, _, p3⟩ := f6.slot j _ b2
                obtain ⟨_, _, _, _, z2⟩ := fxr_some p3
                have z3 : σ2[j]? = some (some (.ref Dl)) := by
                  rw [wipe_get] at z
                  split at z
                  · split at z <;> cases z
                  · exact z
                rw [p1] at z3
                cases z3
                exact z2
              refine loop_read (R := fun H7 => Kp H1 H7 ∧ ∃ ssi dn accV rest, FR K fx ssi (L2.wipe σ vs) H7 ∧ (∀ (j : Nat) (s : Sl) (o : O), ssi[j]? = some s → s.obj = some o → ∃ t u, (wipeS s1 vs)[j]? = some t ∧ t.obj = some u) ∧
      H7 Dl = some (.lst accV) ∧ RepAll K H7 accV dn ∧ comp2F vs vs1 gg t fl1 gg1 t1 e (ds.drop (i + 1)) ssi = some (rest, sE) ∧ dn ++ rest = xs) w1 fI nI hD6 (ra.kp kall) e5 (by rw [← ra.len] at hlen ⊢; omega) fun H7 a1 k7 f7 old7 hD7 ra7 => ?_
              refine ⟨(k2.trans kall).trans k7, wipeS sE1 vs, dn ++ xs1, a1, xs', ?_, fun j s o a b => ?_, hD7, ra7, hrest, by rw [List.append_assoc]; exact hx⟩
              · have g := f7.wipe vs
                rw [wipe_sub hv wipe_wipe, wq] at g
                exact g
              · obtain ⟨t', u, c, d⟩ := old7 j s o (wipeS_old a b) b
                obtain ⟨t2, u2, c2, d2⟩ := oldO j t' u (wipeS_old c d) d
                exact old j t2 u2 c2 d2
  · have ed : ds.drop i = [] := List.drop_eq_nil_of_le (by omega)
    rw [ed] at hc2
    unfold comp2F at hc2
    cases hc2
    rw [List.append_nil] at hx
    subst hx
    exact .inl ⟨wi.2 (by omega), k Dl H2 (k1.trans k2) (f1.back k2 f2) ⟨accV, hDl, ra⟩ (back_new nw.1 nr)⟩
variable {elt tg iter : Expr} {ifs : List Expr} {scope : Scope} {own : List (Str × Nat)} {pos : Pos} {fl : FL} {gg : GF} {t : FB} {e : FE} {vs : List Nat}
/-- [elt for tg in iter if ..] -/
theorem xlc (own : List (Str × Nat)) (hN : X.N.Nodup) (hi : PI X tg iter (iD X.F fl)) (ok : blkC X.N X.env.scope scope own = true)
    (hg : ∀ (s : Shared) (H : Hp) (C : Addr) (cl : List (Str × Addr)) (fp : List Addr), PG (X.blk s H scope (compEnvC scope cl C X.env) fp) tg (gD X.F gg (own.map (·.2)))) (ht : ∀ (s : Shared) (H : Hp) (C : Addr) (cl : List (Str × Addr)) (fp : List Addr), PTs (X.blk s H scope (compEnvC scope cl C X.env) fp) ifs (tT X.F t))
    (he : ∀ (s : Shared) (H : Hp) (C : Addr) (cl : List (Str × Addr)) (fp : List Addr), PE (X.blk s H scope (compEnvC scope cl C X.env) fp) elt (tD X.F e)) (hc : X.calm = true := by rfl) (hs : ∀ x, foldedSetIterable iter X.env x = pure x := by intro _; rfl) :
    PE X (.ListComp elt [⟨tg, iter, ifs, 0⟩] scope pos) (tN X.F (nLc (own.map (·.2)) fl gg t e)) :=
  (pe_lc hc hN hi (blkOk_by ok) hg ht he hs).imp fun σ H Q q => lc_read q
/-- name = [..] on one line: the reading of the store -/
theorem xsetLc (i : Nat) {y : Str} {py spos : Pos} (own : List (Str × Nat)) (hN : X.N.Nodup) (hi : PI X tg iter (iD X.F fl)) (ok : blkC X.N X.env.scope scope own = true)
    (hg : ∀ (s : Shared) (H : Hp) (C : Addr) (cl : List (Str × Addr)) (fp : List Addr), PG (X.blk s H scope (compEnvC scope cl C X.env) fp) tg (gD X.F gg (own.map (·.2)))) (ht : ∀ (s : Shared) (H : Hp) (C : Addr) (cl : List (Str × Addr)) (fp : List Addr), PTs (X.blk s H scope (compEnvC scope cl C X.env) fp) ifs (tT X.F t))
    (he : ∀ (s : Shared) (H : Hp) (C : Addr) (cl : List (Str × Addr)) (fp : List Addr), PE (X.blk s H scope (compEnvC scope cl C X.env) fp) elt (tD X.F e))
    (hsw : swapsWith (.ListComp elt [⟨tg, iter, ifs, 0⟩] scope pos) (some (.Name y py)) spos.line X.env = pure true) (hy : X.N[i]? = some y := by rfl) (hyl : X.env.scope.names.lookup y = some .local := by rfl) (hc : X.calm = true := by rfl) (hs : ∀ x, foldedSetIterable iter X.env x = pure x := by intro _; rfl) :
    PS X (.Assign [.Name y py] (.ListComp elt [⟨tg, iter, ifs, 0⟩] scope pos) spos) (tAsg (tN X.F (nLc (own.map (·.2)) fl gg t e)) (gName i)) :=
  (ps_setLc hc hN hy hyl hsw hi (blkOk_by ok) hg ht he hs).imp fun E σ H q => lc_read q
/-- [elt for tg in iter if .. for tg1 in iter1 if ..] -/
theorem xlc2 {tg1 iter1 : Expr} {ifs1 : List Expr} {vs1 : List Nat} {fl1 : FL} {gg1 : GF} {t1 : FB} (own : List (Str × Nat)) (hN : X.N.Nodup) (hi : PI X tg iter (iD X.F fl)) (ok : blkC X.N X.env.scope scope own = true) (hv : ∀ i ∈ vs1, i ∈ own.map (·.2))
    (hg : ∀ (s : Shared) (H : Hp) (C : Addr) (cl : List (Str × Addr)) (fp : List Addr), PG (X.blk s H scope (compEnvC scope cl C X.env) fp) tg (gD X.F gg (own.map (·.2)))) (ht : ∀ (s : Shared) (H : Hp) (C : Addr) (cl : List (Str × Addr)) (fp : List Addr), PTs (X.blk s H scope (compEnvC scope cl C X.env) fp) ifs (tT X.F t))
    (hi1 : ∀ (s : Shared) (H : Hp) (C : Addr) (cl : List (Str × Addr)) (fp : List Addr), PI (X.blk s H scope (compEnvC scope cl C X.env) fp) tg1 iter1 (iD X.F fl1))
    (hg1 : ∀ (s : Shared) (H : Hp) (C : Addr) (cl : List (Str × Addr)) (fp : List Addr), PG (X.blk s H scope (compEnvC scope cl C X.env) fp) tg1 (gD X.F gg1 vs1)) (ht1 : ∀ (s : Shared) (H : Hp) (C : Addr) (cl : List (Str × Addr)) (fp : List Addr), PTs (X.blk s H scope (compEnvC scope cl C X.env) fp) ifs1 (tT X.F t1))
    (he : ∀ (s : Shared) (H : Hp) (C : Addr) (cl : List (Str × Addr)) (fp : List Addr), PE (X.blk s H scope (compEnvC scope cl C X.env) fp) elt (tD X.F e)) (hc : X.calm = true := by rfl) (hs : ∀ x, foldedSetIterable iter X.env x = pure x := by intro _; rfl) (hs1 : ∀ env x, foldedSetIterable iter1 env x = pure x := by intro _ _; rfl) :
    PE X (.ListComp elt [⟨tg, iter, ifs, 0⟩, ⟨tg1, iter1, ifs1, 0⟩] scope pos) (tN X.F (nLc2 (own.map (·.2)) vs1 fl gg t fl1 gg1 t1 e)) :=
  (pe_lc2 hc hN hi (blkOk_by ok) hv hg ht hi1 hg1 ht1 he hs hs1).imp fun σ H Q q => lc2_read hv q
theorem xsetLc2 (i : Nat) {y : Str} {py spos : Pos} {tg1 iter1 : Expr} {ifs1 : List Expr} {vs1 : List Nat} {fl1 : FL} {gg1 : GF} {t1 : FB} (own : List (Str × Nat)) (hN : X.N.Nodup) (hi : PI X tg iter (iD X.F fl)) (ok : blkC X.N X.env.scope scope own = true) (hv : ∀ i ∈ vs1, i ∈ own.map (·.2))
    (hg : ∀ (s : Shared) (H : Hp) (C : Addr) (cl : List (Str × Addr)) (fp : List Addr), PG (X.blk s H scope (compEnvC scope cl C X.env) fp) tg (gD X.F gg (own.map (·.2)))) (ht : ∀ (s : Shared) (H : Hp) (C : Addr) (cl : List (Str × Addr)) (fp : List Addr), PTs (X.blk s H scope (compEnvC scope cl C X.env) fp) ifs (tT X.F t))
    (hi1 : ∀ (s : Shared) (H : Hp) (C : Addr) (cl : List (Str × Addr)) (fp : List Addr), PI (X.blk s H scope (compEnvC scope cl C X.env) fp) tg1 iter1 (iD X.F fl1))
    (hg1 : ∀ (s : Shared) (H : Hp) (C : Addr) (cl : List (Str × Addr)) (fp : List Addr), PG (X.blk s H scope (compEnvC scope cl C X.env) fp) tg1 (gD X.F gg1 vs1)) (ht1 : ∀ (s : Shared) (H : Hp) (C : Addr) (cl : List (Str × Addr)) (fp : List Addr), PTs (X.blk s H scope (compEnvC scope cl C X.env) fp) ifs1 (tT X.F t1))
    (he : ∀ (s : Shared) (H : Hp) (C : Addr) (cl : List (Str × Addr)) (fp : List Addr), PE (X.blk s H scope (compEnvC scope cl C X.env) fp) elt (tD X.F e))
    (hsw : swapsWith (.ListComp elt [⟨tg, iter, ifs, 0⟩, ⟨tg1, iter1, ifs1, 0⟩] scope pos) (some (.Name y py)) spos.line X.env = pure true) (hy : X.N[i]? = some y := by rfl) (hyl : X.env.scope.names.lookup y = some .local := by rfl) (hc : X.calm = true := by rfl) (hs : ∀ x, foldedSetIterable iter X.env x = pure x := by intro _; rfl) (hs1 : ∀ env x, foldedSetIterable iter1 env x = pure x := by intro _ _; rfl) :
    PS X (.Assign [.Name y py] (.ListComp elt [⟨tg, iter, ifs, 0⟩, ⟨tg1, iter1, ifs1, 0⟩] scope pos) spos) (tAsg (tN X.F (nLc2 (own.map (·.2)) vs1 fl gg t fl1 gg1 t1 e)) (gName i)) :=
  (ps_setLc2 hc hN hy hyl hsw hi (blkOk_by ok) hv hg ht hi1 hg1 ht1 he hs hs1).imp fun E σ H q => lc2_read hv q
theorem _root_.L2.Inv.slen {pins : List (Addr × Obj)} {σ : St} {H : Hp} {s : Shared} (I : Inv X pins σ H s) : σ.length = X.N.length := I.len
/-! ### what is walked -/
theorem _root_.L2.PI.imp {tg iter : Expr} {wi wi' : TI} (h : PI X tg iter wi) (w : ∀ σ H R, wi' σ H R → wi σ H R) : PI X tg iter wi' := ⟨fun pins s σ H R I q => h.run pins s σ H R I (w σ H R q)⟩
theorem PI.orR {tg iter : Expr} {w1 w2 : TI} (h1 : PI X tg iter w1) (h2 : PI X tg iter w2) : PI X tg iter (fun σ H R => w1 σ H R ∨ w2 σ H R) := ⟨fun pins s σ H R I q => q.elim (h1.run pins s σ H R I) (h2.run pins s σ H R I)⟩
/-- the items of a list, a tuple, the signs of a text -/
def itemsOf : D → Option (List D)
  | .list ds => some ds
  | .tuple ds => some ds
  | .str x => some (x.cps.toList.map fun c => .str ⟨#[c]⟩)
  | d => match kvsOf d with
    | some (false, kvs) => some (kvs.map (·.1))
    | _ => none
def lSeq (f : FE) : FL := fun ss => (f ss).bind fun d s1 => .of (itemsOf d) s1
theorem walk_l {K : Fg} {a : Addr} {xs : List V} {ds : List D} {H : Hp} (h : LstF K H a xs) (r : RepAll K H xs ds) : Walk K (Itl K a) ds H := fun i H' k => by
  have h' := (h.kp k).sq
  have r' := r.kp k
  refine ⟨fun d e => ?_, fun hl => ⟨xs, h', by rw [r'.len]; exact hl⟩⟩
  obtain ⟨v, e1, rv⟩ := r'.get e
  exact ⟨⟨xs, v, h', e1⟩, fun x H2 hy => by
    obtain ⟨rfl, hx⟩ := hy
    have := hx xs h'
    rw [e1] at this
    cases this
    exact ⟨Same.refl _, rv⟩⟩
theorem walk_t {K : Fg} {a : Addr} {xs : List V} {ds : List D} {H : Hp} (h : SqT K H a xs) (r : RepAll K H xs ds) : Walk K (Itt K a) ds H := fun i H' k => by
  have h' := sqT_kp k h
  have r' := r.kp k
  refine ⟨fun d e => ?_, fun hl => ⟨xs, h', by rw [r'.len]; exact hl⟩⟩
  obtain ⟨v, e1, rv⟩ := r'.get e
  exact ⟨⟨xs, v, h', e1⟩, fun x H2 hy => by
    obtain ⟨rfl, hx⟩ := hy
    have := hx xs h'
    rw [e1] at this
    cases this
    exact ⟨Same.refl _, rv⟩⟩
theorem Rep.dkv {K : Fg} {H : Hp} {v : V} {d : D} {kvs : List (D × D)} (h : Rep K H v d) (e : kvsOf d = some (false, kvs)) : ∃ a o kv0 ds, v = .ref a ∧ H a = some (.frz o (.dK kv0)) ∧ RepAll K H (kv0.map (·.2)) ds ∧ kvs = (kv0.map fun p => keyD p.1).zip ds := by
  cases h with
  | dK h r => rw [kvsOf_dK] at e; cases e; exact ⟨_, _, _, _, rfl, h, r, rfl⟩
  | dN h c q r => cases e
  | ins h c r => cases e
  | fn h => cases e
  | _ => cases e
theorem keyD_rep {K : Fg} {H : Hp} (k : Key) : Rep K H (kV k) (keyD k) := by
  cases k with
  | inl i => exact .int i
  | inr x => exact .str x
theorem zip_fst {kv0 : List (Key × V)} {ds : List D} (h : ds.length = kv0.length) : ((kv0.map fun p => keyD p.1).zip ds).map (·.1) = kv0.map fun p => keyD p.1 := List.map_fst_zip (by rw [List.length_map]; omega)
theorem zip_snd {kv0 : List (Key × V)} {ds : List D} (h : ds.length = kv0.length) : ((kv0.map fun p => keyD p.1).zip ds).map (·.2) = ds := List.map_snd_zip (by rw [List.length_map]; omega)
/-- the keys of a dict -/
theorem walk_k {K : Fg} {a : Addr} {o : Obj} {kv0 : List (Key × V)} {ds : List D} {H : Hp} (h : H a = some (.frz o (.dK kv0))) (r : RepAll K H (kv0.map (·.2)) ds) : Walk K (Itk a o kv0) (((kv0.map fun p => keyD p.1).zip ds).map (·.1)) H := fun i H' k => by
  have hl : ds.length = kv0.length := by rw [← r.len, List.length_map]
  have h' := k.frz _ _ _ h
  rw [zip_fst hl]
  refine ⟨fun d e => ?_, fun hn => ⟨h', by rw [List.length_map] at hn; exact hn⟩⟩
  rw [List.getElem?_map] at e
  obtain ⟨p, e1, rfl⟩ := Option.map_eq_some_iff.mp e
  refine ⟨⟨h', (List.getElem?_eq_some_iff.mp e1).1⟩, fun x H2 hy => ?_⟩
  obtain ⟨rfl, k', v', q1, rfl⟩ := hy
  rw [e1] at q1
  cases q1
  exact ⟨Same.refl _, keyD_rep _⟩
/-- its values -/
theorem walk_v {K : Fg} {a : Addr} {o : Obj} {kv0 : List (Key × V)} {ds : List D} {H : Hp} (h : H a = some (.frz o (.dK kv0))) (r : RepAll K H (kv0.map (·.2)) ds) : Walk K (Itd a o kv0) (((kv0.map fun p => keyD p.1).zip ds).map (·.2)) H := fun i H' k => by
  have hl : ds.length = kv0.length := by rw [← r.len, List.length_map]
  have h' := k.frz _ _ _ h
  have r' := r.kp k
  rw [zip_snd hl]
  refine ⟨fun d e => ?_, fun hn => ⟨h', by omega⟩⟩
  obtain ⟨v, e1, rv⟩ := r'.get e
  rw [List.getElem?_map] at e1
  obtain ⟨p, e2, rfl⟩ := Option.map_eq_some_iff.mp e1
  refine ⟨⟨h', (List.getElem?_eq_some_iff.mp e2).1⟩, fun x H2 hy => ?_⟩
  obtain ⟨rfl, k', q1⟩ := hy
  rw [e2] at q1
  cases q1
  exact ⟨Same.refl _, rv⟩
def pairD (p : D × D) : D := .tuple [p.1, p.2]
/-- its pairs -/
theorem walk_i {K : Fg} {a : Addr} {o : Obj} {kv0 : List (Key × V)} {ds : List D} {H : Hp} (h : H a = some (.frz o (.dK kv0))) (r : RepAll K H (kv0.map (·.2)) ds) : Walk K (Iti a o kv0) (((kv0.map fun p => keyD p.1).zip ds).map pairD) H := fun i H' k => by
  have hl : ds.length = kv0.length := by rw [← r.len, List.length_map]
  have h' := k.frz _ _ _ h
  have r' := r.kp k
  refine ⟨fun d e => ?_, fun hn => ⟨h', by rw [List.length_map, List.length_zip, List.length_map] at hn; omega⟩⟩
  rw [List.getElem?_map] at e
  obtain ⟨q, e1, rfl⟩ := Option.map_eq_some_iff.mp e
  obtain ⟨e2, e3⟩ := List.getElem?_zip_eq_some.mp e1
  obtain ⟨v, e4, rv⟩ := r'.get e3
  rw [List.getElem?_map] at e2 e4
  obtain ⟨p, e5, e6⟩ := Option.map_eq_some_iff.mp e4
  rw [e5] at e2
  refine ⟨⟨h', (List.getElem?_eq_some_iff.mp e5).1⟩, fun x H2 hy => ?_⟩
  obtain ⟨T, k', v', q1, rfl, q2, rfl⟩ := hy
  rw [e5] at q1
  cases q1
  have sm : Same H' (upd H' T (.tup [kV k', v'])) := same_new q2
  have ek : q.1 = keyD k' := by
    have := Option.some.inj e2
    exact this.symm
  refine ⟨sm, .tup (.of upd_same) (.cons ?_ (.cons (by subst e6; exact rv.kp (.same sm)) .nil))⟩
  rw [ek]
  exact keyD_rep _
theorem walk_s {K : Fg} {x : Str} {H : Hp} : Walk K (Its x) (x.cps.toList.map fun c => PyData.str ⟨#[c]⟩) H := fun i H' k => by
  refine ⟨fun d e => ?_, fun hl => ?_⟩
  · rw [List.getElem?_map] at e
    obtain ⟨c, e1, rfl⟩ := Option.map_eq_some_iff.mp e
    have e2 : x.cps[i]? = some c := by rw [← Array.getElem?_toList]; exact e1
    refine ⟨(Array.getElem?_eq_some_iff.mp e2).1, fun v H2 hy => ?_⟩
    obtain ⟨rfl, c', hc, rfl⟩ := hy
    rw [e2] at hc
    cases hc
    exact ⟨Same.refl _, .str _⟩
  · rw [List.length_map, Array.length_toList] at hl
    exact hl
variable {f : FE}
theorem iseq (h : PE X iter (tD X.F f)) : PI X tg iter (iD X.F (lSeq f)) := by
  refine (PI.orR (pi_list h) (PI.orR (pi_tup h) (PI.orR (pi_str h) (pi_keys h)))).imp fun σ H R q => ?_
  obtain ⟨fx, ss, ds, s2, fr, e, k⟩ := q
  obtain ⟨d, s1, e1, e⟩ := bind_ok e
  obtain ⟨eg, rfl⟩ := of_ok e
  unfold itemsOf at eg
  split at eg
  · cases eg
    refine .inl ⟨fx, ss, _, _, fr, e1, fun v H1 k1 f1 r1 => ?_⟩
    obtain ⟨a, xs, rfl, h1, r2⟩ := r1.lstv
    exact ⟨a, rfl, ⟨xs, h1.sq⟩, k _ _ k1 f1 (walk_l h1 r2)⟩
  · cases eg
    refine .inr (.inl ⟨fx, ss, _, _, fr, e1, fun v H1 k1 f1 r1 => ?_⟩)
    obtain ⟨a, xs, rfl, h1, r2⟩ := r1.tupv
    exact ⟨a, rfl, ⟨xs, h1⟩, k _ _ k1 f1 (walk_t h1 r2)⟩
  · cases eg
    refine .inr (.inr (.inl ⟨fx, ss, _, _, fr, e1, fun v H1 k1 f1 r1 => ?_⟩))
    obtain rfl := r1.strv
    exact ⟨_, rfl, k _ _ k1 f1 walk_s⟩
  · split at eg
    · rename_i kvs he
      cases eg
      refine .inr (.inr (.inr ⟨fx, ss, _, _, fr, e1, fun v H1 k1 f1 r1 => ?_⟩))
      obtain ⟨a, o, kv0, ds, rfl, h1, r2, rfl⟩ := r1.dkv he
      exact ⟨a, o, rfl, .inl ⟨kv0, h1, k _ _ k1 f1 (walk_k h1 r2)⟩⟩
    · cases eg
/-- d.items(), d.values() -/
def lItems (f : FE) : FL := fun ss => (f ss).bind fun d s1 => match kvsOf d with
  | some (false, kvs) => .ok (kvs.map pairD) s1
  | _ => .no
def lVals (f : FE) : FL := fun ss => (f ss).bind fun d s1 => match kvsOf d with
  | some (false, kvs) => .ok (kvs.map (·.2)) s1
  | _ => .no
theorem items_read {σ : St} {H : Hp} {R : It → Hp → Prop} (q : iD X.F (lItems f) σ H R) : iItems (tD X.F f) σ H R := by
  obtain ⟨fx, ss, ds, s2, fr, e, k⟩ := q
  obtain ⟨d, s1, e1, e⟩ := bind_ok e
  split at e
  · rename_i kvs he
    cases e
    refine ⟨fx, ss, _, _, fr, e1, fun v H1 k1 f1 r1 => ?_⟩
    obtain ⟨a, o, kv0, ds, rfl, h1, r2, rfl⟩ := r1.dkv he
    exact ⟨a, o, kv0, rfl, h1, k _ _ k1 f1 (walk_i h1 r2)⟩
  · cases e
theorem vals_read {σ : St} {H : Hp} {R : It → Hp → Prop} (q : iD X.F (lVals f) σ H R) : iVals (tD X.F f) σ H R := by
  obtain ⟨fx, ss, ds, s2, fr, e, k⟩ := q
  obtain ⟨d, s1, e1, e⟩ := bind_ok e
  split at e
  · rename_i kvs he
    cases e
    refine ⟨fx, ss, _, _, fr, e1, fun v H1 k1 f1 r1 => ?_⟩
    obtain ⟨a, o, kv0, ds, rfl, h1, r2, rfl⟩ := r1.dkv he
    exact ⟨a, o, kv0, rfl, h1, k _ _ k1 f1 (walk_v h1 r2)⟩
  · cases e
theorem iitems {e : Expr} {elts : List Expr} {kk : Nat} {tpos apos cpos : Pos} (he : PE X e (tD X.F f)) (hbase : attributeBase e "items" X.env (eval e X.env) = eval e X.env := by rfl) (hline : (apos.endLine == cpos.line) = true := by rfl) :
    PI X (.Tuple elts kk tpos) (.Call (.Attribute e "items" apos) [] [] cpos) (iD X.F (lItems f)) := (pi_items he hbase hline).imp fun _ _ _ q => items_read q
theorem ivals {e tg : Expr} {apos cpos : Pos} (he : PE X e (tD X.F f)) (hbase : attributeBase e "values" X.env (eval e X.env) = eval e X.env := by rfl) (hline : (apos.endLine == cpos.line) = true := by rfl) :
    PI X tg (.Call (.Attribute e "values" apos) [] [] cpos) (iD X.F (lVals f)) := (pi_values he hbase hline).imp fun _ _ _ q => vals_read q
/-- range -/
def rangeD (lo : Int) (n : Nat) : List D := (List.range n).map fun (i : Nat) => PyData.int (lo + (i : Int))
theorem walk_r {K : Fg} {lo : Int} {n : Nat} {H : Hp} : Walk K (Itr lo n) (rangeD lo n) H := fun i H' k => by
  unfold rangeD
  refine ⟨fun d e => ?_, fun hl => ?_⟩
  · rw [List.getElem?_map] at e
    obtain ⟨c, e1, rfl⟩ := Option.map_eq_some_iff.mp e
    obtain ⟨h1, h2⟩ := List.getElem?_eq_some_iff.mp e1
    rw [List.length_range] at h1
    rw [List.getElem_range] at h2
    subst h2
    refine ⟨h1, fun v H2 hy => ?_⟩
    obtain ⟨rfl, rfl⟩ := hy
    exact ⟨Same.refl _, .int _⟩
  · rw [List.length_map, List.length_range] at hl
    exact hl
def small (j : Int) : Bool := decide (-(2 ^ 62) ≤ j) && decide (j < 2 ^ 62)
theorem small_of {j : Int} (h : small j = true) : -(2 ^ 62) ≤ j ∧ j < 2 ^ 62 := by
  unfold small at h
  simpa using h
def lRng1 (f : FL) : FL := fun ss => (f ss).bind fun d s1 => match d with
  | [.int j] => if small j = true then .ok (rangeD 0 j.toNat) s1 else .no
  | _ => .no
def lRng2 (f : FL) : FL := fun ss => (f ss).bind fun d s1 => match d with
  | [.int i, .int j] => if small i = true ∧ small j = true then .ok (rangeD i (j - i).toNat) s1 else .no
  | _ => .no
variable {a b : Expr} {p : Pos}
theorem irng1 (hm : X.mg "range" = none) (ha : PA X [a] (tL X.F fl)) (hg : Gl X "range" := by rfl) (hs : starEach [a] X.env = [(false, eval a X.env)] := by rfl) : PI X tg (.Call (.Name "range" p) [a] [] pos) (iD X.F (lRng1 fl)) := by
  refine (pi_range1 hg hm ha hs).imp fun σ H R q => ?_
  obtain ⟨fx, ss, ds, s2, fr, e, k⟩ := q
  obtain ⟨d, s1, e1, e⟩ := bind_ok e
  refine ⟨fx, ss, d, s1, fr, e1, fun vs H1 k1 f1 r1 => ?_⟩
  split at e
  · split at e
    · rename_i j hj
      cases e
      obtain ⟨v, rfl, rv⟩ := r1.one
      obtain rfl := rv.intv
      exact ⟨j, rfl, (small_of hj).1, (small_of hj).2, k _ _ k1 f1 walk_r⟩
    · cases e
  · cases e
theorem irng2 (hm : X.mg "range" = none) (ha : PA X [a, b] (tL X.F fl)) (hg : Gl X "range" := by rfl) (hs : starEach [a, b] X.env = [(false, eval a X.env), (false, eval b X.env)] := by rfl) (hs2 : starEach [b] X.env = [(false, eval b X.env)] := by rfl) : PI X tg (.Call (.Name "range" p) [a, b] [] pos) (iD X.F (lRng2 fl)) := by
  refine (pi_range2 hg hm ha hs hs2).imp fun σ H R q => ?_
  obtain ⟨fx, ss, ds, s2, fr, e, k⟩ := q
  obtain ⟨d, s1, e1, e⟩ := bind_ok e
  refine ⟨fx, ss, d, s1, fr, e1, fun vs H1 k1 f1 r1 => ?_⟩
  split at e
  · split at e
    · rename_i i j hj
      cases e
      obtain ⟨v, w, rfl, rv, rw_⟩ := r1.two
      obtain rfl := rv.intv
      obtain rfl := rw_.intv
      exact ⟨i, j, rfl, ⟨(small_of hj.1).1, (small_of hj.1).2, (small_of hj.2).1, (small_of hj.2).2⟩, k _ _ k1 f1 walk_r⟩
    · cases e
  · cases e
/-- zip of two lists, of two tuples -/
def zipD (xs ys : List D) : List D := List.zipWith (fun x y => .tuple [x, y]) xs ys
def lZip (f : FL) : FL := fun ss => (f ss).bind fun d s1 => match d with
  | [.list xs, .list ys] => .ok (zipD xs ys) s1
  | [.tuple xs, .tuple ys] => .ok (zipD xs ys) s1
  | _ => .no
theorem zipD_get {xs ys : List D} {i : Nat} {d : D} (h : (zipD xs ys)[i]? = some d) : ∃ x y, xs[i]? = some x ∧ ys[i]? = some y ∧ d = .tuple [x, y] := by
  unfold zipD at h
  rw [List.getElem?_zipWith] at h
  split at h
  · rename_i x y a b
    exact ⟨x, y, a, b, (Option.some.inj h).symm⟩
  · cases h
theorem walk_z {K : Fg} {a b : Addr} {xs ys : List V} {ds es : List D} {H : Hp} (h : LstF K H a xs) (g : LstF K H b ys) (r : RepAll K H xs ds) (q : RepAll K H ys es) : Walk K (Itz K a b) (zipD ds es) H := fun i H' k => by
  have h' := (h.kp k).sq
  have g' := (g.kp k).sq
  have r' := r.kp k
  have q' := q.kp k
  refine ⟨fun d e => ?_, fun hl => ⟨xs, ys, h', g', ?_⟩⟩
  · obtain ⟨x, y, e1, e2, rfl⟩ := zipD_get e
    obtain ⟨v, e3, rv⟩ := r'.get e1
    obtain ⟨w, e4, rw_⟩ := q'.get e2
    refine ⟨⟨xs, ys, v, w, h', g', e3, e4⟩, fun z H2 hy => ?_⟩
    obtain ⟨T, v', w', rfl, hT, rfl, z1, z2⟩ := hy
    have e5 := z1 xs h'
    rw [e3] at e5
    cases e5
    have e6 := z2 ys g'
    rw [e4] at e6
    cases e6
    exact ⟨same_new hT, .tup (.of upd_same) ((RepAll.cons rv (.cons rw_ .nil)).kp (.same (same_new hT)))⟩
  · unfold zipD at hl
    rw [List.length_zipWith] at hl
    rw [r'.len, q'.len]
    omega
theorem walk_zt {K : Fg} {a b : Addr} {xs ys : List V} {ds es : List D} {H : Hp} (h : SqT K H a xs) (g : SqT K H b ys) (r : RepAll K H xs ds) (q : RepAll K H ys es) : Walk K (ItzT K a b) (zipD ds es) H := fun i H' k => by
  have h' := sqT_kp k h
  have g' := sqT_kp k g
  have r' := r.kp k
  have q' := q.kp k
  refine ⟨fun d e => ?_, fun hl => ⟨xs, ys, h', g', ?_⟩⟩
  · obtain ⟨x, y, e1, e2, rfl⟩ := zipD_get e
    obtain ⟨v, e3, rv⟩ := r'.get e1
    obtain ⟨w, e4, rw_⟩ := q'.get e2
    refine ⟨⟨xs, ys, v, w, h', g', e3, e4⟩, fun z H2 hy => ?_⟩
    obtain ⟨T, v', w', rfl, hT, rfl, z1, z2⟩ := hy
    have e5 := z1 xs h'
    rw [e3] at e5
    cases e5
    have e6 := z2 ys g'
    rw [e4] at e6
    cases e6
    exact ⟨same_new hT, .tup (.of upd_same) ((RepAll.cons rv (.cons rw_ .nil)).kp (.same (same_new hT)))⟩
  · unfold zipD at hl
    rw [List.length_zipWith] at hl
    rw [r'.len, q'.len]
    omega
variable {elts : List Expr} {kk : Nat} {tpos : Pos}
theorem izip (hm : X.mg "zip" = none) (ha : PA X [a, b] (tL X.F fl)) (hg : Gl X "zip" := by rfl) (hs : starEach [a, b] X.env = (false, eval a X.env) :: starEach [b] X.env := by rfl) (hpl : (backTo pos (starEach [b] X.env)).any (·.1) = false := by rfl) :
    PI X (.Tuple elts kk tpos) (.Call (.Name "zip" p) [a, b] [] pos) (iD X.F (lZip fl)) := by
  refine (pi_zipA hg hm ha hs hpl).imp fun σ H R q => ?_
  obtain ⟨fx, ss, ds, s2, fr, e, k⟩ := q
  obtain ⟨d, s1, e1, e⟩ := bind_ok e
  refine ⟨fx, ss, d, s1, fr, e1, fun vs H1 k1 f1 r1 => ?_⟩
  split at e
  · cases e
    obtain ⟨v, w, rfl, rv, rw_⟩ := r1.two
    obtain ⟨a1, xs, rfl, h1, q1⟩ := rv.lstv
    obtain ⟨a2, ys, rfl, h2, q2⟩ := rw_.lstv
    exact ⟨a1, a2, xs, ys, rfl, .inl ⟨h1.sq, h2.sq, k _ _ k1 f1 (walk_z h1 h2 q1 q2)⟩⟩
  · cases e
    obtain ⟨v, w, rfl, rv, rw_⟩ := r1.two
    obtain ⟨a1, xs, rfl, h1, q1⟩ := rv.tupv
    obtain ⟨a2, ys, rfl, h2, q2⟩ := rw_.tupv
    exact ⟨a1, a2, xs, ys, rfl, .inr ⟨h1, h2, k _ _ k1 f1 (walk_zt h1 h2 q1 q2)⟩⟩
  · cases e
/-- enumerate of a list -/
def enumD (xs : List D) : List D := List.zipWith (fun (i : Nat) x => .tuple [.int (i : Int), x]) (List.range xs.length) xs
def lEnum (f : FL) : FL := fun ss => (f ss).bind fun d s1 => match d with
  | [.list xs] => .ok (enumD xs) s1
  | _ => .no
theorem walk_e {K : Fg} {a : Addr} {xs : List V} {ds : List D} {H : Hp} (h : LstF K H a xs) (r : RepAll K H xs ds) : Walk K (Ite K a) (enumD ds) H := fun i H' k => by
  have h' := (h.kp k).sq
  have r' := r.kp k
  refine ⟨fun d e => ?_, fun hl => ⟨xs, h', ?_⟩⟩
  · unfold enumD at e
    rw [List.getElem?_zipWith] at e
    split at e
    · rename_i j x e1 e2
      cases e
      have hj : j = i := by
        obtain ⟨h1, h2⟩ := List.getElem?_eq_some_iff.mp e1
        rw [List.getElem_range] at h2
        exact h2.symm
      subst hj
      obtain ⟨v, e3, rv⟩ := r'.get e2
      refine ⟨⟨xs, v, h', e3⟩, fun z H2 hy => ?_⟩
      obtain ⟨T, v', rfl, hT, rfl, z1⟩ := hy
      have e5 := z1 xs h'
      rw [e3] at e5
      cases e5
      exact ⟨same_new hT, .tup (.of upd_same) ((RepAll.cons (.int _) (.cons rv .nil)).kp (.same (same_new hT)))⟩
    · cases e
  · unfold enumD at hl
    rw [List.length_zipWith, List.length_range] at hl
    rw [r'.len]
    omega
theorem ienum (hm : X.mg "enumerate" = none) (ha : PA X [a] (tL X.F fl)) (hg : Gl X "enumerate" := by rfl) (hs : starEach [a] X.env = [(false, eval a X.env)] := by rfl) :
    PI X (.Tuple elts kk tpos) (.Call (.Name "enumerate" p) [a] [] pos) (iD X.F (lEnum fl)) := by
  refine (pi_enum hg hm ha hs).imp fun σ H R q => ?_
  obtain ⟨fx, ss, ds, s2, fr, e, k⟩ := q
  obtain ⟨d, s1, e1, e⟩ := bind_ok e
  refine ⟨fx, ss, d, s1, fr, e1, fun vs H1 k1 f1 r1 => ?_⟩
  split at e
  · cases e
    obtain ⟨v, rfl, rv⟩ := r1.one
    obtain ⟨a1, xs, rfl, h1, q1⟩ := rv.lstv
    exact ⟨a1, xs, rfl, h1.sq, k _ _ k1 f1 (walk_e h1 q1)⟩
  · cases e
end
end Dt

/-! Dt8: objects of one's own: read, changed, locked. -/
namespace Dt
open PySem PySem.Spec L2
open PyProof.Rows hiding St
def objAt (ss : SS) (i : Nat) : Option O := (ss[i]?).bind Sl.obj
theorem objAt_some {ss : SS} {i : Nat} {o : O} (h : objAt ss i = some o) : ∃ s, ss[i]? = some s ∧ s.obj = some o := Option.bind_eq_some_iff.mp h
section
variable {X : Cx} {a b : Expr} {es : List Expr} {pos p : Pos} {f g : FE} {fl : FL} {x : Str}
/-- a name that holds data, or an object that is from now on data -/
def eVF (i : Nat) : FE := fun ss => match ss[i]? with
  | some (.imm d) => .ok d ss
  | some (.own o) => .ok o.toD (ss.set i (.imm o.toD))
  | _ => .no
theorem xvf (i : Nat) (hN : X.N[i]? = some x := by rfl) (hv : Vis X.env.scope x := by first | exact Or.inl rfl | exact Or.inr (Or.inl rfl) | exact Or.inr (Or.inr rfl)) (hd : (x == ("__debug__" : Str)) = false := by decide)
    (hcd : (x == ("__classdict__" : Str)) = false := by decide) : PE X (.Name x pos) (tD X.F (eVF i)) := by
  refine ⟨fun pins s σ H Q I q => ?_⟩
  obtain ⟨fx, ss, d, s3, fr, e, k⟩ := q
  unfold eVF at e
  split at e
  · rename_i d' e1
    cases e
    obtain ⟨v, h1, h2⟩ := fr.slot i _ e1
    exact (pe_var hN hv hd hcd).run pins s σ H Q I ⟨v, h1, k v H (Kp.refl H) fr h2⟩
  · rename_i o e1
    cases e
    obtain ⟨q, h1, h2, h3⟩ := fr.slot i _ e1
    refine thn ((pe_var hN hv hd hcd).run pins s σ H (fun v H' => v = .ref q ∧ H' = H) I ⟨_, h1, rfl, rfl⟩) fun u s2 z => ?_
    obtain ⟨v, H', I2, r, rfl, rfl⟩ := z
    obtain ⟨w, hw, lw, mw, rp⟩ := h2.loose
    obtain ⟨od, I3⟩ := I2.lock hw mw
    obtain ⟨f2, k2⟩ := fr.freeze (u := .frz od w) e1 h1 hw lw fun _ => rp od
    exact ⟨.ref q, _, I3, r, k _ _ k2 f2 (rp od)⟩
  · cases e
/-- xs.append(e) -/
def sApp (i : Nat) (f : FE) : FS := fun ss => match objAt ss i with
  | some (.lst _) => match f ss with
    | .ok d s1 => match s1[i]? with
      | some s => match s.obj with
        | some (.lst ds) => if ds.length < sizeLine then .nx (s1.set i (s.put (.lst (ds ++ [d])))) else .no
        | _ => .no
      | none => .no
    | .no => .no
  | _ => .no
theorem sapp (i : Nat) {st : Stmt} (h : PS X st (tDrop (tBM X.F "list" rAppend (tVar i) (tCons (tD X.F f) tNil)))) : PS X st (tS X.F (sApp i f)) := by
  refine h.imp fun E σ H q => ?_
  obtain ⟨fx, ss, fr, k⟩ := tS_iff.mp q
  unfold sApp at k
  split at k
  · rename_i ds0 ho
    obtain ⟨s0, e0, eo⟩ := objAt_some ho
    obtain ⟨q, h1, ⟨xs, h2, _⟩, _⟩ := (fr.slot i s0 e0).obj eo
    refine ⟨_, h1, .inl ⟨rfl, xs, .of h2⟩, ?_⟩
    split at k
    · rename_i d s1 e1
      split at k
      · rename_i s es_
        split at k
        · rename_i ds eo2
          split at k
          · rename_i hl
            refine ⟨fx, ss, d, s1, fr, e1, fun v H1 k1 f1 r1 => ?_⟩
            obtain ⟨q2, z1, ⟨ys, z2, z3⟩, _⟩ := (f1.slot i s es_).obj eo2
            rw [h1] at z1
            cases z1
            obtain ⟨f2, k2⟩ := f1.mut (o' := .lst (ds ++ [d])) (u := .lst (ys ++ [v])) es_ eo2 h1 fun kk => ⟨_, upd_same, (z3.append (.cons r1 .nil)).kp kk⟩
            exact ⟨q, ys, v, rfl, rfl, z2, by rw [z3.len]; exact hl, k _ _ (k1.trans k2) f2⟩
          · exact k.elim
        · exact k.elim
      · exact k.elim
    · exact k.elim
  · exact k.elim

/-- xs[e] = v, a list of one's own -/
def sSetL (i : Nat) (fi fv : FE) : FS := fun ss => match fv ss with
  | .no => .no
  | .ok d s1 => match objAt s1 i with
    | some (.lst _) => match fi s1 with
      | .ok (.int n) s2 => match s2[i]? with
        | some s => match s.obj with
          | some (.lst ds) => match ixN ds.length n with
            | some j => .nx (s2.set i (s.put (.lst (ds.set j d))))
            | none => .no
          | _ => .no
        | none => .no
      | _ => .no
    | _ => .no
theorem ssetL (i : Nat) {st : Stmt} {fi fv : FE} (h : PS X st (tAsg (tD X.F fv) (gSub (tVar i) (tD X.F fi) rSetL))) : PS X st (tS X.F (sSetL i fi fv)) := by
  refine h.imp fun E σ H q => ?_
  obtain ⟨fx, ss, fr, k⟩ := tS_iff.mp q
  unfold sSetL at k
  split at k
  · exact k.elim
  rename_i d s1 e1
  split at k
  rotate_left
  · exact k.elim
  rename_i ds0 ho
  split at k
  rotate_left
  · exact k.elim
  rename_i n s2 e2
  split at k
  rotate_left
  · exact k.elim
  rename_i s es_
  split at k
  rotate_left
  · exact k.elim
  rename_i ds eo2
  split at k
  rotate_left
  · exact k.elim
  rename_i j hj
  refine ⟨fx, ss, d, s1, fr, e1, fun v H1 k1 f1 r1 => ?_⟩
  obtain ⟨s0, e0, eo⟩ := objAt_some ho
  obtain ⟨q, h1, _, _⟩ := (f1.slot i s0 e0).obj eo
  refine ⟨_, h1, fx, s1, _, s2, f1, e2, fun w H2 k2 f2 r2 => ?_⟩
  obtain rfl := r2.intv
  obtain ⟨q2, z1, ⟨ys, z2, z3⟩, _⟩ := (f2.slot i s es_).obj eo2
  rw [h1] at z1
  cases z1
  obtain ⟨f3, k3⟩ := f2.mut (o' := .lst (ds.set j d)) (u := .lst (ys.set j v)) es_ eo2 h1 fun kk => ⟨_, upd_same, ((z3.set (r1.kp k2) j)).kp kk⟩
  exact ⟨q, ys, n, j, rfl, rfl, z2, by rw [z3.len]; exact hj, k _ _ ((k1.trans k2).trans k3) f3⟩
/-- xs[e], a list of one's own -/
def eOix (i : Nat) (f : FE) : FE := fun ss => match objAt ss i with
  | some _ => (f ss).bind fun d s1 => match objAt s1 i, d with
    | some (.lst ds), .int n => .of (atI ds n) s1
    | _, _ => .no
  | none => .no
theorem xoix (i : Nat) (h : PE X a (tOp (rIxL X.F) (tVar i) (tD X.F f))) : PE X a (tD X.F (eOix i f)) := by
  refine h.imp fun σ H Q q => ?_
  obtain ⟨fx, ss, d, s3, fr, e, k⟩ := q
  unfold eOix at e
  split at e
  rotate_left
  · cases e
  rename_i o ho
  obtain ⟨s0, e0, eo⟩ := objAt_some ho
  obtain ⟨q, h1, _, _⟩ := (fr.slot i s0 e0).obj eo
  obtain ⟨y, s1, e1, e⟩ := bind_ok e
  refine ⟨_, h1, fx, ss, y, s1, fr, e1, fun w H1 k1 f1 r1 => ?_⟩
  split at e
  · rename_i ds n ho1
    obtain ⟨eg, rfl⟩ := of_ok e
    obtain ⟨s', a1, a2⟩ := objAt_some ho1
    obtain ⟨q2, z1, ⟨ys, z2, z3⟩, _⟩ := (f1.slot i s' a1).obj a2
    rw [h1] at z1
    cases z1
    obtain rfl := r1.intv
    obtain ⟨v, b1, b2⟩ := z3.atI eg
    exact ⟨q, ys, n, v, rfl, rfl, .of z2, b1, k _ _ k1 f1 b2⟩
  · cases e
/-! ### looked at, and left -/
theorem ep_back {pins : List (Addr × Obj)} {σ : St} {H : Hp} {s : Shared} {q : Addr} {o : O} (I : Inv X pins σ H s) (ow : OwnAt X.F H q o) :
    ∃ H1, Inv X pins σ H1 s ∧ Kp H H1 ∧ Rep X.F H1 (.ref q) o.toD ∧ ∀ {Q : VK} {u : Value} {s' : Shared} {b : Bool}, EP X pins σ (fun v H' => v = .bl b ∧ Same H1 H') u s' → (∀ H', Same H H' → Q (.bl b) H') → EP X pins σ Q u s' := by
  obtain ⟨w, hw, lw, mw, rp⟩ := ow.loose
  obtain ⟨od, I1⟩ := I.lock hw mw
  refine ⟨_, I1, Kp.upd hw lw, rp od, fun {Q u s' b} h k => ?_⟩
  obtain ⟨v, H', I2, r, rfl, sm⟩ := h
  have hq : H' q = some (.frz od w) := sm _ _ upd_same
  refine ⟨.bl b, _, I2.unlock hq (I.nofrz hw mw), r, k _ fun a o e => ?_⟩
  by_cases ha : a = q
  · subst ha
    rw [hw] at e
    cases e
    exact upd_same
  · rw [upd_ne ha]
    exact sm a o (by rw [upd_ne ha]; exact e)
def rPkL (K : Fg) (g : D → D → Option D) : R2 := fun x y H Q => ∃ p o e b, x = .ref p ∧ OwnAt K H p o ∧ Rep K H y e ∧ g o.toD e = some (.bool b) ∧ ∀ H', Same H H' → Q (.bl b) H'
def rPkR (K : Fg) (g : D → D → Option D) : R2 := fun x y H Q => ∃ p o d b, y = .ref p ∧ OwnAt K H p o ∧ Rep K H x d ∧ g d o.toD = some (.bool b) ∧ ∀ H', Same H H' → Q (.bl b) H'
theorem opPkL {fo : Value → Value → Sem Value} {g : D → D → Option D} (h : OpR X fo (rD X.F g)) : OpR X fo (rPkL X.F g) := by
  intro pins s σ H x y v u Q I rx ry ⟨p, o, e, b, hx, ow, he, hg, k⟩
  subst hx
  obtain ⟨H1, I1, k1, rp, back⟩ := ep_back I ow
  exact thn (h pins s σ H1 _ _ v u (fun v H' => v = .bl b ∧ Same H1 H') I1 rx ry ⟨_, e, _, rp, he.kp k1, hg, fun v H' sm rv => ⟨rv.bool, sm⟩⟩) fun _ _ q => back q k
theorem opPkR {fo : Value → Value → Sem Value} {g : D → D → Option D} (h : OpR X fo (rD X.F g)) : OpR X fo (rPkR X.F g) := by
  intro pins s σ H x y v u Q I rx ry ⟨p, o, d, b, hx, ow, he, hg, k⟩
  subst hx
  obtain ⟨H1, I1, k1, rp, back⟩ := ep_back I ow
  exact thn (h pins s σ H1 _ _ v u (fun v H' => v = .bl b ∧ Same H1 H') I1 rx ry ⟨d, _, _, he.kp k1, rp, hg, fun v H' sm rv => ⟨rv.bool, sm⟩⟩) fun _ _ q => back q k
def ePkL (g : D → D → Option D) (i : Nat) (f : FE) : FE := fun ss => match objAt ss i with
  | some _ => (f ss).bind fun y s1 => match objAt s1 i with
    | some o => match g o.toD y with
      | some (.bool b) => .ok (.bool b) s1
      | _ => .no
    | none => .no
  | none => .no
def ePkR (g : D → D → Option D) (i : Nat) (f : FE) : FE := fun ss => (f ss).bind fun y s1 => match objAt s1 i with
    | some o => match g y o.toD with
      | some (.bool b) => .ok (.bool b) s1
      | _ => .no
    | none => .no
theorem pkl_read {i : Nat} {g : D → D → Option D} {σ : St} {H : Hp} {Q : VK} (q : tD X.F (ePkL g i f) σ H Q) : tOp (rPkL X.F g) (tVar i) (tD X.F f) σ H Q := by
  obtain ⟨fx, ss, d, s3, fr, e, k⟩ := q
  unfold ePkL at e
  split at e
  rotate_left
  · cases e
  rename_i o0 ho0
  obtain ⟨s0, e0, eo⟩ := objAt_some ho0
  obtain ⟨q, h1, _, _⟩ := (fr.slot i s0 e0).obj eo
  obtain ⟨y, s1, e1, e⟩ := bind_ok e
  refine ⟨_, h1, fx, ss, y, s1, fr, e1, fun w H1 k1 f1 r1 => ?_⟩
  split at e
  rotate_left
  · cases e
  rename_i o1 ho1
  split at e
  rotate_left
  · cases e
  rename_i bb hbb
  cases e
  obtain ⟨s', a1, a2⟩ := objAt_some ho1
  obtain ⟨q2, z1, ow, _⟩ := (f1.slot i s' a1).obj a2
  rw [h1] at z1
  cases z1
  exact ⟨q, o1, y, bb, rfl, ow, r1, hbb, fun H' sm => k _ _ (k1.trans (.same sm)) (f1.same sm) (.bl _)⟩
theorem pkr_read {i : Nat} {g : D → D → Option D} {σ : St} {H : Hp} {Q : VK} (q : tD X.F (ePkR g i f) σ H Q) : tOp (rPkR X.F g) (tD X.F f) (tVar i) σ H Q := by
  obtain ⟨fx, ss, d, s3, fr, e, k⟩ := q
  obtain ⟨y, s1, e1, e⟩ := bind_ok e
  refine ⟨fx, ss, y, s1, fr, e1, fun w H1 k1 f1 r1 => ?_⟩
  split at e
  rotate_left
  · cases e
  rename_i o1 ho1
  split at e
  rotate_left
  · cases e
  rename_i bb hbb
  cases e
  obtain ⟨s', a1, a2⟩ := objAt_some ho1
  obtain ⟨q2, z1, ow, _⟩ := (f1.slot i s' a1).obj a2
  exact ⟨_, z1, q2, o1, y, bb, rfl, ow, r1, hbb, fun H' sm => k _ _ (k1.trans (.same sm)) (f1.same sm) (.bl _)⟩
theorem xpkl (i : Nat) {op : CmpOp} {g : D → D → Option D} (ho : OpR X (compareOp op) (rD X.F g)) (ha : PE X a (tVar i)) (hb : PE X b (tD X.F f)) (hm : behindInMarks op b = false := by first | exact nomark _ | rfl) : PE X (.Compare a [op] [b] pos) (tD X.F (ePkL g i f)) :=
  (pe_cmpR (opPkL ho) ha hb hm).imp fun _ _ _ q => pkl_read q
theorem xpkr (i : Nat) {op : CmpOp} {g : D → D → Option D} (ho : OpR X (compareOp op) (rD X.F g)) (ha : PE X a (tD X.F f)) (hb : PE X b (tVar i)) (hm : behindInMarks op b = false := by first | exact nomark _ | rfl) : PE X (.Compare a [op] [b] pos) (tD X.F (ePkR g i f)) :=
  (pe_cmpR (opPkR ho) ha hb hm).imp fun _ _ _ q => pkr_read q
theorem tpkl (i : Nat) {op : CmpOp} {g : D → D → Option D} (ho : OpR X (compareOp op) (rD X.F g)) (ha : PE X a (tVar i)) (hb : PE X b (tD X.F f)) (hm : behindInMarks op b = false := by first | exact nomark _ | rfl) : PT X (.Compare a [op] [b] pos) (tT X.F (bOf (ePkL g i f))) :=
  tread (pt_cmpR (opPkL ho) ha hb hm) fun _ _ _ q => pkl_read q
theorem tpkr (i : Nat) {op : CmpOp} {g : D → D → Option D} (ho : OpR X (compareOp op) (rD X.F g)) (ha : PE X a (tD X.F f)) (hb : PE X b (tVar i)) (hm : behindInMarks op b = false := by first | exact nomark _ | rfl) : PT X (.Compare a [op] [b] pos) (tT X.F (bOf (ePkR g i f))) :=
  tread (pt_cmpR (opPkR ho) ha hb hm) fun _ _ _ q => pkr_read q
/-- len of a list of one's own -/
def eOlen (i : Nat) : FE := fun ss => match objAt ss i with
  | some (.lst ds) => .ok (.int ds.length) ss
  | _ => .no
theorem xolen (i : Nat) (h : PE X a (tCB (fun xs H Q => ∃ p ys, xs = [.ref p] ∧ (SqL X.F H p ys ∨ SqT X.F H p ys) ∧ Q (.int ys.length) H) (tCons (tVar i) tNil))) : PE X a (tD X.F (eOlen i)) := by
  refine h.imp fun σ H Q q => ?_
  obtain ⟨fx, ss, d, s3, fr, e, k⟩ := q
  unfold eOlen at e
  split at e
  · rename_i ds ho
    cases e
    obtain ⟨s', a1, a2⟩ := objAt_some ho
    obtain ⟨q2, z1, ⟨ys, z2, z3⟩, _⟩ := (fr.slot i s' a1).obj a2
    exact ⟨_, z1, q2, ys, rfl, .inl (.of z2), k _ _ (Kp.refl H) fr (by rw [z3.len]; exact .int _)⟩
  · cases e
/-! ### more stores -/
variable {ws : List Nat}
/-- [a, b] or (a, b) = a list -/
def gLst (n : Nat) (g : List D → SS → Option SS) : GF := fun d ss => match d with
  | .list ds => if ds.length = n then g ds ss else none
  | _ => none
theorem sasgL {st : Stmt} {n : Nat} {g : List D → SS → Option SS} (h : PS X st (tAsg (tD X.F f) (L2.gLst X.F n (gsD X.F g ws)))) : PS X st (tS X.F (sAsg f (gLst n g))) := by
  refine h.imp fun E σ H q => ?_
  obtain ⟨fx, ss, fr, k⟩ := tS_iff.mp q
  unfold sAsg at k
  cases e : f ss with
  | no => rw [e] at k; exact k.elim
  | ok d s1 =>
    rw [e] at k
    simp only at k
    cases e2 : gLst n g d s1 with
    | none => rw [e2] at k; exact k.elim
    | some s2 =>
      rw [e2] at k
      unfold gLst at e2
      split at e2
      · split at e2
        · rename_i ds hl
          refine ⟨fx, ss, _, s1, fr, e, fun v H1 k1 f1 r1 => ?_⟩
          obtain ⟨a, xs, rfl, h1, r2⟩ := r1.lstv
          exact ⟨a, xs, rfl, h1.sq, r2.len.trans hl, fx, s1, ds, s2, f1, r2, e2, fun σ2 H2 _ k2 f2 => k σ2 H2 (k1.trans k2) f2⟩
        · cases e2
      · cases e2
/-- a, b = e1, e2: plain names -/
def sPar (is : List Nat) (f : FL) : FS := fun ss => match f ss with
  | .ok ds s1 => if ds.length = is.length ∧ is.all (fun i => decide (i < s1.length)) = true then .nx ((is.zip ds).foldl (fun t p => t.set p.1 (.imm p.2)) s1) else .no
  | .no => .no
theorem spar {i j : Nat} {st : Stmt} (h : PS X st (tPar i j (tL X.F fl))) : PS X st (tS X.F (sPar [i, j] fl)) := by
  refine h.imp fun E σ H q => ?_
  obtain ⟨fx, ss, fr, k⟩ := tS_iff.mp q
  unfold sPar at k
  cases e : fl ss with
  | no => rw [e] at k; exact k.elim
  | ok ds s1 =>
    rw [e] at k
    simp only at k
    split at k
    · rename_i hc
      refine ⟨fx, ss, ds, s1, fr, e, fun vs H1 k1 f1 r1 => ?_⟩
      match ds, hc.1, r1, k with
      | [d1, d2], _, .cons h1 (.cons h2 .nil), k =>
        have hi := hc.2
        simp only [List.all_cons, List.all_nil, Bool.and_true, Bool.and_eq_true, decide_eq_true_eq] at hi
        exact ⟨_, _, rfl, k _ _ k1 ((f1.imm hi.1 h1).imm (by rw [List.length_set]; exact hi.2) h2)⟩
    · exact k.elim
theorem spar3 {i j l : Nat} {st : Stmt} (h : PS X st (tPar3 i j l (tL X.F fl))) : PS X st (tS X.F (sPar [i, j, l] fl)) := by
  refine h.imp fun E σ H q => ?_
  obtain ⟨fx, ss, fr, k⟩ := tS_iff.mp q
  unfold sPar at k
  cases e : fl ss with
  | no => rw [e] at k; exact k.elim
  | ok ds s1 =>
    rw [e] at k
    simp only at k
    split at k
    · rename_i hc
      refine ⟨fx, ss, ds, s1, fr, e, fun vs H1 k1 f1 r1 => ?_⟩
      match ds, hc.1, r1, k with
      | [d1, d2, d3], _, .cons h1 (.cons h2 (.cons h3 .nil)), k =>
        have hi := hc.2
        simp only [List.all_cons, List.all_nil, Bool.and_true, Bool.and_eq_true, decide_eq_true_eq] at hi
        exact ⟨_, _, _, rfl, k _ _ k1 (((f1.imm hi.1 h1).imm (by rw [List.length_set]; exact hi.2.1) h2).imm (by rw [List.length_set, List.length_set]; exact hi.2.2) h3)⟩
    · exact k.elim
end
end Dt

/-! Dt9: defs by their places, texts, slices, the rest. -/
namespace Dt
open PySem PySem.Spec L2
open PyProof.Rows hiding St
/-- the def as it stands behind the top -/
def At (K : Fg) (mg : Str → Option Value) (x : Str) (st : Stmt) (ps : List Str) : Prop := ∃ f fd, Fun K x x st f fd ∧ mg x = some (.ref f) ∧ ∀ us : List Value, us.length = ps.length → bindArgs fd ⟨us, []⟩ = pure (ps.zip us)
/-- the def keeps its promise -/
def Ok (P : Program) (K : Fg) (mg : Str → Option Value) (base : Heap) (k : Nat) (x : Str) (ps : List Str) (F : FnS) : Prop := ∃ f fd, FnOk P K.w K.k mg base CX0 k f fd ps (spOf K F ps.length) ∧ mg x = some (.ref f) ∧ PySem.W.keepIn K (.ref f) = true ∧ Binds K fd ps []
section
variable {P : Program} {K : Fg} {mg : Str → Option Value} {base : Heap} {x : Str} {st : Stmt} {N ps : List Str} {k : Nat} {b : FS} {F : FnS}
theorem mk_ok (a : At K mg x st ps) (S : FnScope N ps (defScope st))
    (hbody : ∀ (f : Addr) (cdv : Value) (A : Around) (outer : List Env) (s : Shared) (H : Hp) (E : XK), Room k (A.deeper (envOfC x (defScope st) s.heap.objs.size f cdv)) →
      PSs (cxOf CX0 P K.w K.k mg base N x (defScope st) f cdv A outer s H E).nox (defBody st) (tS K b)) : Ok P K mg base (k + 1) x ps (callF N.length b) := by
  obtain ⟨f, fd, F, m, bi⟩ := a
  exact ⟨f, fd, fn_ok F S (hbody f), m, F.kp, .all bi⟩
theorem ok_none (a : At K mg x st ps) : Ok P K mg base k x ps (fun _ => none) := by
  obtain ⟨f, fd, F, m, bi⟩ := a
  refine ⟨f, fd, ⟨fun vs H Q E h => h.1, fun A outer s H args us vs Q E _ _ _ _ h => ?_⟩, m, F.kp, .all bi⟩
  obtain ⟨_, _, _, _, _, h, _⟩ := h
  cases h
theorem Ok.mono {j : Nat} (h : Ok P K mg base j x ps F) (l : j ≤ k) : Ok P K mg base k x ps F := by
  obtain ⟨f, fd, G, r⟩ := h
  exact ⟨f, fd, G.mono l, r⟩
end
section
variable {X : Cx} {a b : Expr} {es : List Expr} {pos p : Pos} {f g : FE} {fl : FL} {x : Str} {k : Nat} {ps : List Str} {F : FnS} {fa : SS → Res (List Ar)} {e : Expr}
theorem xc (G : Ok X.prog X.F X.mg X.base k x ps F) (hr : Room k X.A) (ha : PA X (e :: es) (tA X.F fa)) (hal : LenA fa (e :: es).length) (hl : (e :: es).length = ps.length := by rfl) (hg : Gl X x := by rfl)
    (hdb : (x == ("__debug__" : Str)) = false := by decide) (he : starEach (e :: es) X.env = (false, eval e X.env) :: starEach es X.env := by rfl) (hpl : (backTo pos (starEach es X.env)).any (·.1) = false := by rfl) : PE X (.Call (.Name x p) (e :: es) [] pos) (tD X.F (eCall F fa)) := by
  obtain ⟨f, fd, G, m, kp, bi⟩ := G
  exact xcall G hr m kp bi ha hl hal hg hdb he hpl
theorem xcn (G : Ok X.prog X.F X.mg X.base k x ps F) (hr : Room k X.A) (ha : PA X (e :: es) (tA X.F fa)) (hal : LenA fa (e :: es).length) (hl : (e :: es).length = ps.length := by rfl) (hg : Gl X x := by rfl)
    (hdb : (x == ("__debug__" : Str)) = false := by decide) (he : starEach (e :: es) X.env = (false, eval e X.env) :: starEach es X.env := by rfl) (hpl : (backTo pos (starEach es X.env)).any (·.1) = false := by rfl) : PE X (.Call (.Name x p) (e :: es) [] pos) (tN X.F (nCall F fa)) := by
  obtain ⟨f, fd, G, m, kp, bi⟩ := G
  exact xcallN G hr m kp bi ha hl hal hg hdb he hpl
/-- -n -/
def dNeg : D → Option D
  | .int i => some (.int (-i))
  | _ => none
theorem unNeg : UnR X (unaryOp .USub) (uD X.F dNeg) := by
  intro pins s σ H x v Q I rx ⟨d, z, hd, hz, k⟩
  unfold dNeg at hz
  split at hz
  · cases hz
    obtain rfl := hd.intv
    exact un_neg pins s σ H _ v Q I rx ⟨_, rfl, k _ _ (Same.refl H) (.int _)⟩
  · cases hz
/-! ### slices -/
/-- a bound of a slice: an int, or none -/
abbrev FO := SS → Res (Option Int)
def oNone : FO := fun ss => .ok none ss
def oSome (f : FE) : FO := fun ss => (f ss).bind fun d s1 => match d with
  | .int i => .ok (some i) s1
  | _ => .no
def tO (K : Fg) (f : FO) : TO := fun σ H Q => ∃ fx ss o ss', FR K fx ss σ H ∧ f ss = .ok o ss' ∧ ∀ H', Kp H H' → FR K fx ss' σ H' → Q o H'
theorem on : PO X none (tO X.F oNone) := by
  refine ⟨fun s σ H pins Q I q => po_none.run s σ H pins Q I ?_⟩
  obtain ⟨fx, ss, o, s1, fr, e, k⟩ := q
  cases e
  exact k _ (Kp.refl _) fr
theorem os (h : PE X a (tD X.F f)) : PO X (some a) (tO X.F (oSome f)) := by
  refine ⟨fun s σ H pins Q I q => (po_some h).run s σ H pins Q I ?_⟩
  obtain ⟨fx, ss, o, s2, fr, e, k⟩ := q
  obtain ⟨d, s1, e1, e⟩ := bind_ok e
  split at e
  · cases e
    exact ⟨fx, ss, _, _, fr, e1, fun v H1 k1 f1 r1 => ⟨_, r1.intv, k H1 k1 f1⟩⟩
  · cases e
def eSl (f : FE) (lo hi : FO) : FE := fun ss => (f ss).bind fun d s1 => (lo s1).bind fun l s2 => (hi s2).bind fun h s3 => .of (dSl d l h) s3
theorem xsl {p2 : Pos} {lo hi : Option Expr} {fo fh : FO} (he : PE X a (tD X.F f)) (hl : PO X lo (tO X.F fo)) (hu : PO X hi (tO X.F fh)) : PE X (.Subscript a (.Slice lo hi none p2) pos) (tD X.F (eSl f fo fh)) := by
  refine (pe_slice slD he hl hu).imp fun σ H Q q => ?_
  obtain ⟨fx, ss, d, s4, fr, e, k⟩ := q
  obtain ⟨x, s1, e1, e⟩ := bind_ok e
  obtain ⟨l, s2, e2, e⟩ := bind_ok e
  obtain ⟨h, s3, e3, e⟩ := bind_ok e
  obtain ⟨eg, rfl⟩ := of_ok e
  exact ⟨fx, ss, x, s1, fr, e1, fun v H1 k1 f1 r1 => ⟨fx, s1, l, s2, f1, e2, fun H2 k2 f2 => ⟨fx, s2, h, _, f2, e3, fun H3 k3 f3 => ⟨x, d, (r1.kp k2).kp k3, eg, fun w H4 sm rw_ => k w H4 (((k1.trans k2).trans k3).trans (.same sm)) (f3.same sm) rw_⟩⟩⟩⟩
/-- isinstance(x, (A, B)) -/
def dIs2 (T U : String) (d : D) : Option D := match dIs T d, dIs U d with
  | some (.bool a), some (.bool b) => some (.bool (a || b))
  | _, _ => none
theorem xis2 {x1 x2 : Str} {tT tU : String} {p2 p3 p4 : Pos} {n : Nat} (hT : IsTy tT) (hU : IsTy tU) (ha : PE X a (tD X.F f)) (hm : X.mg "isinstance" = none) (hm1 : X.mg x1 = none) (hm2 : X.mg x2 = none) (hv1 : bootBuiltins x1 = some (.type tT)) (hv2 : bootBuiltins x2 = some (.type tU)) (hg1 : Gl X x1 := by rfl) (hg2 : Gl X x2 := by rfl)
    (hn1 : x1 ≠ "__name__" := by decide) (hn2 : x2 ≠ "__name__" := by decide) (hd1 : (x1 == ("__debug__" : Str)) = false := by decide) (hd2 : (x2 == ("__debug__" : Str)) = false := by decide) (hg : Gl X "isinstance" := by rfl) (hv : bootBuiltins "isinstance" = some (.builtin "isinstance") := by decide +kernel)
    (he : starEach [a, .Tuple [.Name x1 p2, .Name x2 p3] n p4] X.env = (false, eval a X.env) :: starEach [.Tuple [.Name x1 p2, .Name x2 p3] n p4] X.env := by rfl) (hpl : (backTo pos (starEach [.Tuple [.Name x1 p2, .Name x2 p3] n p4] X.env)).any (·.1) = false := by rfl)
    (he2 : starEach [.Tuple [.Name x1 p2, .Name x2 p3] n p4] X.env = (false, eval (.Tuple [.Name x1 p2, .Name x2 p3] n p4) X.env) :: starEach [] X.env := by rfl) (hs1 : starEach [.Name x1 p2, .Name x2 p3] X.env = (false, eval (.Name x1 p2) X.env) :: starEach [.Name x2 p3] X.env := by rfl) (hs2 : starEach [.Name x2 p3] X.env = (false, eval (.Name x2 p3) X.env) :: starEach [] X.env := by rfl) :
    PE X (.Call (.Name "isinstance" p) [a, .Tuple [.Name x1 p2, .Name x2 p3] n p4] [] pos) (tD X.F (eUn (dIs2 tT tU) f)) := by
  refine (pe_callB call_isiT hg hm hv (pa_cons ha (pa_cons (pe_tup (pa_cons (pe_bltn (v := .ty tT) hg1 hm1 hv1 rfl hn1 hd1) (pa_cons (pe_bltn (v := .ty tU) hg2 hm2 hv2 rfl hn2 hd2) pa_nil hs2) hs1)) pa_nil he2) he) (by decide) (by decide) he hpl).imp fun σ H Q q => ?_
  obtain ⟨fx, ss, d, s3, fr, e, k⟩ := q
  obtain ⟨y, s1, e1, e⟩ := bind_ok e
  obtain ⟨eg, rfl⟩ := of_ok e
  refine ⟨fx, ss, y, _, fr, e1, fun v H1 k1 f1 r1 => ⟨by show 2 ≤ sizeLine; decide, fun tp htp => ?_⟩⟩
  unfold dIs2 at eg
  split at eg
  · rename_i ba bb h1 h2
    cases eg
    obtain ⟨_, z1, q1, n1⟩ := kit_is (K := X.F) hT h1
    obtain ⟨_, z2, q2, _⟩ := kit_is (K := X.F) hU h2
    cases z1
    cases z2
    have sm : Same H1 (upd H1 tp (.tup [.ty tT, .ty tU])) := same_new htp
    refine ⟨v, tp, [.ty tT, .ty tU], .type (tyName y), [.type tT, .type tU], ba || bb, rfl, upd_same, .cons (.ty tT) (.cons (.ty tU) .nil), tyx_of (r1.kp (.same sm)) n1, kitAny_cons q1 (fun hb => by rw [hb]; exact kitAny_cons q2 (fun hb2 => by rw [hb2]; exact kitAny_nil) fun hb2 => by rw [hb2]; rfl) (fun hb => by rw [hb]; rfl), k _ _ (k1.trans (.same sm)) (f1.same sm) (.bl _)⟩
  · cases eg
/-- a list of one's own, handed on -/
def nV (i : Nat) : FN := fun ss => match ss[i]? with
  | some (.own o) => .ok o (ss.set i .un)
  | _ => .no
theorem xnv (i : Nat) (h : PE X a (tVar i)) : PE X a (tN X.F (nV i)) := by
  refine h.imp fun σ H Q q => ?_
  obtain ⟨fx, ss, d, s3, fr, e, k⟩ := q
  unfold nV at e
  split at e
  · rename_i o e1
    cases e
    obtain ⟨q, h1, h2, h3⟩ := fr.slot i _ e1
    have lt : i < ss.length := (List.getElem?_eq_some_iff.mp e1).1
    have es : σ.set i (some (.ref q)) = σ := by
      apply List.ext_getElem?
      intro j
      by_cases hj : j = i
      · subst hj
        rw [List.getElem?_set_self (fr.lt lt), h1]
      · rw [List.getElem?_set_ne (Ne.symm hj)]
    have f1 := fr.un (i := i) (x := some (.ref q))
    rw [es] at f1
    refine ⟨_, h1, k q H (Kp.refl H) f1 h2 ⟨h3, fun j sj oj ej eoj hj => ?_⟩⟩
    rcases get_set_eq ej with ⟨rfl, rfl⟩ | ⟨ne, ej⟩
    · cases eoj
    · exact ne (fr.dis j i q sj _ oj _ ej e1 eoj rfl hj h1)
  · cases e
end
end Dt

/-! Dt10: built-in calls that make lists; texts. -/
namespace Dt
open PySem PySem.Spec L2
open PyProof.Rows hiding St
abbrev fuelW : Nat := 100000
theorem bt_len : bootBuiltins "len" = some (.builtin "len") := by decide +kernel
theorem bt_all : bootBuiltins "all" = some (.builtin "all") := by decide +kernel
theorem bt_any : bootBuiltins "any" = some (.builtin "any") := by decide +kernel
theorem bt_sum : bootBuiltins "sum" = some (.builtin "sum") := by decide +kernel
theorem bt_max : bootBuiltins "max" = some (.builtin "max") := by decide +kernel
theorem bt_min : bootBuiltins "min" = some (.builtin "min") := by decide +kernel
theorem bt_ord : bootBuiltins "ord" = some (.builtin "ord") := by decide +kernel
theorem bt_sorted : bootBuiltins "sorted" = some (.builtin "sorted") := by decide +kernel
theorem bt_int : bootBuiltins "int" = some (.type "int") := by decide +kernel
theorem bt_bool : bootBuiltins "bool" = some (.type "bool") := by decide +kernel
theorem bt_str : bootBuiltins "str" = some (.type "str") := by decide +kernel
theorem bt_list : bootBuiltins "list" = some (.type "list") := by decide +kernel
theorem bt_tuple : bootBuiltins "tuple" = some (.type "tuple") := by decide +kernel
theorem bt_dict : bootBuiltins "dict" = some (.type "dict") := by decide +kernel
theorem bt_set : bootBuiltins "set" = some (.type "set") := by decide +kernel
def nCB (g : List D → Option O) (a : FL) : FN := fun ss => (a ss).bind fun x s1 => .of (g x) s1
section
variable {X : Cx} {a b : Expr} {es : List Expr} {pos p : Pos} {f fa fb : FE} {fl : FL} {x : Str}
theorem cbn_read {g : List D → Option O} {σ : St} {H : Hp} {Q : VK} (q : tN X.F (nCB g fl) σ H Q) : tCB (cDN X.F g) (tL X.F fl) σ H Q := by
  obtain ⟨fx, ss, d, s3, fr, e, k⟩ := q
  obtain ⟨x, s1, e1, e⟩ := bind_ok e
  obtain ⟨eg, rfl⟩ := of_ok e
  exact ⟨fx, ss, x, _, fr, e1, fun v H1 k1 f1 r1 => ⟨x, d, r1, eg, fun p H' hp sm ow => k p H' (k1.trans (.same sm)) (f1.same sm) ow (f1.newAt hp)⟩⟩
theorem xcbN {id : String} {g : List D → Option O} (hc : CallR X (.builtin id) (cDN X.F g)) (hm : X.mg x = none) (hv : bootBuiltins x = some (.builtin id)) (ha : PA X (a :: es) (tL X.F fl)) (hg : Gl X x := by rfl) (hn : x ≠ "__name__" := by decide) (hdb : (x == ("__debug__" : Str)) = false := by decide)
    (he : starEach (a :: es) X.env = (false, eval a X.env) :: starEach es X.env := by rfl) (hpl : (backTo pos (starEach es X.env)).any (·.1) = false := by rfl) : PE X (.Call (.Name x p) (a :: es) [] pos) (tN X.F (nCB g fl)) :=
  (pe_callB hc hg hm hv ha hn hdb he hpl).imp fun σ H Q q => cbn_read q
theorem xctN {id : String} {g : List D → Option O} (hc : CallR X (.type id) (cDN X.F g)) (hm : X.mg x = none) (hv : bootBuiltins x = some (.type id)) (ha : PA X (a :: es) (tL X.F fl)) (hg : Gl X x := by rfl) (hn : x ≠ "__name__" := by decide) (hdb : (x == ("__debug__" : Str)) = false := by decide)
    (he : starEach (a :: es) X.env = (false, eval a X.env) :: starEach es X.env := by rfl) (hpl : (backTo pos (starEach es X.env)).any (·.1) = false := by rfl) : PE X (.Call (.Name x p) (a :: es) [] pos) (tN X.F (nCB g fl)) :=
  (pe_callTy hc hg hm hv ha hn hdb he hpl).imp fun σ H Q q => cbn_read q
/-- xs + ys, the new list one's own -/
def gCat : D → D → Option O
  | .list xs, .list ys => if xs.length + ys.length ≤ sizeLine then some (.lst (xs ++ ys)) else none
  | _, _ => none
theorem opCatN : OpR X (binaryOp .Add) (rDN X.F gCat) := by
  intro pins s σ H x y v u Q I rx ry ⟨d, e, z, hd, he, hz, k⟩
  unfold gCat at hz
  split at hz
  · split at hz
    · rename_i hl
      cases hz
      obtain ⟨a, xs, rfl, h1, r1⟩ := hd.lstv
      obtain ⟨b, ys, rfl, h2, r2⟩ := he.lstv
      exact op_catF pins s σ H _ _ _ _ Q I rx ry ⟨a, b, xs, ys, rfl, rfl, h1.sq, h2.sq, by rw [r1.len, r2.len]; exact hl, fun p hp => k p _ hp (same_new hp) ⟨_, upd_same, (r1.append r2).kp (.same (same_new hp))⟩⟩
    · cases hz
  · cases hz
def nOp (g : D → D → Option O) (a b : FE) : FN := fun ss => (a ss).bind fun x s1 => (b s1).bind fun y s2 => .of (g x y) s2
theorem xopN {op : Operator} {g : D → D → Option O} (ho : OpR X (binaryOp op) (rDN X.F g)) (ha : PE X a (tD X.F fa)) (hb : PE X b (tD X.F fb)) : PE X (.BinOp a op b pos) (tN X.F (nOp g fa fb)) := by
  refine (pe_op ho ha hb).imp fun σ H Q q => ?_
  obtain ⟨fx, ss, d, s3, fr, e, k⟩ := q
  obtain ⟨x, s1, e1, e⟩ := bind_ok e
  obtain ⟨y, s2, e2, e⟩ := bind_ok e
  obtain ⟨eg, rfl⟩ := of_ok e
  exact ⟨fx, ss, x, s1, fr, e1, fun v H1 k1 f1 r1 => ⟨fx, s1, y, _, f1, e2, fun u H2 k2 f2 r2 => ⟨x, y, d, r1.kp k2, r2, eg, fun p H' hp sm ow => k p H' ((k1.trans k2).trans (.same sm)) (f2.same sm) ow (f2.newAt hp)⟩⟩⟩
/-! ### texts -/
def asS : D → Option Str
  | .str x => some x
  | _ => none
theorem asS_some {d : D} {x : Str} (h : asS d = some x) : d = .str x := by
  cases d <;> first | (cases h; rfl) | cases h
theorem strsOf : ∀ {ds : List D} {bs : List Str}, ds.mapM asS = some bs → ds = bs.map .str
  | [], bs, h => by cases h; rfl
  | d :: ds, bs, h => by
    rw [List.mapM_cons] at h
    obtain ⟨b, h1, h⟩ := Option.bind_eq_some_iff.mp h
    obtain ⟨bs', h2, h⟩ := Option.bind_eq_some_iff.mp h
    cases h
    rw [asS_some h1, strsOf h2]
    rfl
theorem mapM_strs : ∀ ns : List Str, (ns.map PyData.str).mapM asS = some ns
  | [] => rfl
  | n :: ns => by rw [List.map_cons, List.mapM_cons, mapM_strs ns]; rfl
theorem RepAll.strs {K : Fg} {H : Hp} : ∀ {vs : List V} {bs : List Str}, RepAll K H vs (bs.map .str) → vs = bs.map V.str
  | [], [], _ => rfl
  | v :: vs, b :: bs, h => by
    cases h with
    | cons h r => rw [h.strv, RepAll.strs r]; rfl
  | v :: vs, [], h => by cases h
  | [], b :: bs, h => by cases h
theorem repStrs {K : Fg} {H : Hp} : ∀ bs : List Str, RepAll K H (bs.map V.str) (bs.map .str)
  | [] => .nil
  | b :: bs => .cons (.str b) (repStrs bs)
/-- s.m(e), by data -/
def gM1 (g : D → D → Option D) : D → List D → Option D := fun d es => match es with
  | [e] => g d e
  | _ => none
def eM1 (g : Str → D → Option D) (a b : FE) : FE := fun ss => (a ss).bind fun x s1 => match x with
  | .str x => (b s1).bind fun y s2 => .of (g x y) s2
  | _ => .no
theorem m1_read {r : V → List V → Hp → VK → Prop} {g : Str → D → Option D} {e : Expr} (h : PE X e (tM1 r (tD X.F fa) (tD X.F fb))) (hr : ∀ (H : Hp) (x : Str) (v : V) (d z : D) (Q : VK), Rep X.F H v d → g x d = some z → (∀ w H', Same H H' → Rep X.F H' w z → Q w H') → r (.str x) [v] H Q) : PE X e (tD X.F (eM1 g fa fb)) := by
  refine h.imp fun σ H Q q => ?_
  obtain ⟨fx, ss, d, s3, fr, e, k⟩ := q
  obtain ⟨x, s1, e1, e⟩ := bind_ok e
  split at e
  · obtain ⟨y, s2, e2, e⟩ := bind_ok e
    obtain ⟨eg, rfl⟩ := of_ok e
    refine ⟨fx, ss, _, s1, fr, e1, fun v H1 k1 f1 r1 => ?_⟩
    obtain rfl := r1.strv
    exact ⟨⟨_, rfl⟩, fx, s1, y, _, f1, e2, fun u H2 k2 f2 r2 => hr H2 _ u y d Q r2 eg fun w H' sm rw_ => k w H' ((k1.trans k2).trans (.same sm)) (f2.same sm) rw_⟩
  · cases e
def gJoin (x : Str) (d : D) : Option D := match d with
  | .list ds => (ds.mapM asS).bind fun ys => if (ys.map (·.length)).sum + ys.length * x.length ≤ 16777216 then some (.str (Txt.join x ys)) else none
  | .tuple ds => (ds.mapM asS).bind fun ys => if (ys.map (·.length)).sum + ys.length * x.length ≤ 16777216 then some (.str (Txt.join x ys)) else none
  | _ => none
theorem mJoin {apos : Pos} (ho : PE X a (tD X.F fa)) (he : PE X b (tD X.F fb)) (hs : starEach [b] X.env = [(false, eval b X.env)] := by rfl) (hbase : attributeBase a "join" X.env (eval a X.env) = eval a X.env := by rfl) (hline : (apos.endLine == pos.line) = true := by rfl) :
    PE X (.Call (.Attribute a "join" apos) [b] [] pos) (tD X.F (eM1 gJoin fa fb)) := by
  refine m1_read (pe_join ho he hs hbase hline) fun H x v d z Q rv hz k => ?_
  unfold gJoin at hz
  split at hz
  · obtain ⟨ys, h1, h2⟩ := Option.bind_eq_some_iff.mp hz
    split at h2
    · rename_i hl
      cases h2
      obtain ⟨q, xs, rfl, g1, r1⟩ := rv.lstv
      rw [strsOf h1] at r1
      rw [r1.strs] at g1
      exact ⟨x, q, ys, rfl, rfl, .inl g1.sq, hl, k _ _ (Same.refl H) (.str _)⟩
    · cases h2
  · obtain ⟨ys, h1, h2⟩ := Option.bind_eq_some_iff.mp hz
    split at h2
    · rename_i hl
      cases h2
      obtain ⟨q, xs, rfl, g1, r1⟩ := rv.tupv
      rw [strsOf h1] at r1
      rw [r1.strs] at g1
      exact ⟨x, q, ys, rfl, rfl, .inr g1, hl, k _ _ (Same.refl H) (.str _)⟩
    · cases h2
  · cases hz
end
end Dt

/-! Dt11: the ends. -/
namespace Dt
open PySem PySem.Spec L2
open PyProof.Rows hiding St
section
variable {K : Fg} {kk : PySem.W.Frag} {w : World} {h : Heap} {mg : Str → Option Value}
theorem at_mk {x : Str} {st : Stmt} {ps : List Str} {f : Addr} {od an : Option Addr} {sl : Array (Option Value)} {oc kV dc pm cd ct : Value} (X : kk.In h) (G : h.Ns mainGlobals mg)
    (a : PySem.W.nsIn kk mainGlobals x = some (some (.ref f))) (l : kk.lookup f = some ⟨oc, od, .func (PySem.W.fnOf x x (defArgs st) (defBody st) (defScope st) .none kV dc pm an cd ct), sl⟩) (c : PySem.W.codeIn kk cd x = true) (k : PySem.W.keepIn kk (.ref f) = true)
    (b : ∀ (kV doc pm : Value) (an : Option Addr) (cdv ct : Value) (us : List Value), us.length = ps.length → bindArgs (PySem.W.fnOf x x (defArgs st) (defBody st) (defScope st) .none kV doc pm an cdv ct) ⟨us, []⟩ = pure (ps.zip us)) : At ⟨kk, w⟩ mg x st ps := by
  have F := fun_mk (K := kk) (st := st) l c k
  exact ⟨f, _, F, PySem.W.mg_of X G a, b kV dc pm an cd ct⟩
theorem no_mk {x : Str} (X : kk.In h) (G : h.Ns mainGlobals mg) (z : PySem.W.nsIn kk mainGlobals x = some none) : mg x = none := PySem.W.mg_none_of X G z
theorem gl_int {x : Str} {n : Int} {t : Tok} (X : kk.In h) (G : h.Ns mainGlobals mg) (z : PySem.W.nsIn kk mainGlobals x = some (some (.int n t))) : GlD ⟨kk, w⟩ mg x (.int n) := ⟨.int n, _, PySem.W.mg_of X G z, ⟨t, rfl⟩, fun _ => .int n⟩
theorem gl_str {x y : Str} {t : Tok} (X : kk.In h) (G : h.Ns mainGlobals mg) (z : PySem.W.nsIn kk mainGlobals x = some (some (.str y t))) : GlD ⟨kk, w⟩ mg x (.str y) := ⟨.str y, _, PySem.W.mg_of X G z, ⟨t, rfl⟩, fun _ => .str y⟩
/-- data of the written part -/
inductive RepK (K : Fg) : Value → V → D → Prop
  | int {n : Int} {t : Tok} : RepK K (.int n t) (.int n) (.int n)
  | str {x : Str} {t : Tok} : RepK K (.str x t) (.str x) (.str x)
  | tup {a : Addr} {o : Obj} {us : Array Value} {n : Nat} {vs : List V} {ds : List D} : K.k.lookup a = some o → o.cls = .type "tuple" → o.data = .seq us n → us.size ≤ sizeLine → Vals vs us.toList → (∀ H, RepAll K H vs ds) → RepK K (.ref a) (.ref a) (.tuple ds)
theorem RepK.rep {u : Value} {v : V} {d : D} (h : RepK K u v d) : RelV v u ∧ ∀ H, Rep K H v d := by
  cases h with
  | @int n t => exact ⟨⟨t, rfl⟩, fun _ => .int n⟩
  | @str x t => exact ⟨⟨t, rfl⟩, fun _ => .str x⟩
  | tup l c d s r q => exact ⟨rfl, fun H => .tup (.inr ⟨_, _, _, l, c, d, s, r⟩) (q H)⟩
inductive RepsK (K : Fg) : Nat → List Value → List V → List D → Prop
  | nil : RepsK K 0 [] [] []
  | cons {n : Nat} {u : Value} {us : List Value} {v : V} {vs : List V} {d : D} {ds : List D} : RepK K u v d → RepsK K n us vs ds → RepsK K (n + 1) (u :: us) (v :: vs) (d :: ds)
theorem RepsK.reps {n : Nat} {us : List Value} {vs : List V} {ds : List D} (h : RepsK K n us vs ds) : us.length = n ∧ Vals vs us ∧ ∀ H, RepAll K H vs ds := by
  induction h with
  | nil => exact ⟨rfl, .nil, fun _ => .nil⟩
  | cons h _ ih => exact ⟨by rw [List.length_cons, ih.1], .cons h.rep.1 ih.2.1, fun H => .cons (h.rep.2 H) (ih.2.2 H)⟩
theorem kt {a : Addr} {od : Option Addr} {us : List Value} {n m : Nat} {sl : Array (Option Value)} {vs : List V} {ds : List D} (l : kk.lookup a = some ⟨.type "tuple", od, .seq us.toArray n, sl⟩) (r : RepsK ⟨kk, w⟩ m us vs ds) (hs : m ≤ 1000 := by decide) : RepK ⟨kk, w⟩ (.ref a) (.ref a) (.tuple ds) :=
  .tup l rfl rfl (by rw [List.size_toArray, r.reps.1]; exact Nat.le_trans hs (by decide)) r.reps.2.1 r.reps.2.2
theorem gl_mk {x : Str} {u : Value} {v : V} {d : D} (X : kk.In h) (G : h.Ns mainGlobals mg) (z : PySem.W.nsIn kk mainGlobals x = some (some u)) (r : RepK ⟨kk, w⟩ u v d) : GlD ⟨kk, w⟩ mg x d := ⟨v, u, PySem.W.mg_of X G z, r.rep.1, r.rep.2⟩
end
theorem bind1 {fd : FuncData} {x : Str} (b : ∀ us : List Value, us.length = [x].length → bindArgs fd ⟨us, []⟩ = pure ([x].zip us)) (s : Shared) (u : Value) : BindsTo s fd ⟨[u], []⟩ [(x, u)] := .of_eq (b [u] rfl)
/-- the promise of a law -/
def spLaw (K : Fg) : Sp := fun vs H Q _ => ∃ (a : Addr) (ns : List Int), vs = [.ref a] ∧ LstF K H a (ns.map V.int) ∧ ns.length ≤ 63 ∧ ∀ H', Q (.bl true) H'
theorem rep_ints {K : Fg} {H : Hp} : ∀ ns : List Int, RepAll K H (ns.map V.int) (ns.map .int)
  | [] => .nil
  | n :: ns => .cons (.int n) (rep_ints ns)
theorem law_imp {K : Fg} {F : FnS} (hF : ∀ ns : List Int, ns.length ≤ 63 → ∃ args, F [.imm (.list (ns.map .int))] = some (.imm (.bool true), args)) (vs : List V) (H : Hp) (Q : VK) (E : XK) (h : spLaw K vs H Q E) : spOf K F 1 vs H Q E := by
  obtain ⟨a, ns, rfl, hS, hl, k⟩ := h
  obtain ⟨args, e⟩ := hF ns hl
  refine ⟨rfl, _, _, _, ⟨rfl, fun i sl v h1 h2 => ?_, fun i j o u v h1 => ?_⟩, e, fun v H' pc => ?_⟩
  · cases i with
    | zero => cases h1; cases h2; exact .lst hS (rep_ints ns)
    | succ i => cases h1
  · cases i with
    | zero => cases h1
    | succ i => cases h1
  · have r := pc.ret
    obtain rfl := r.bool
    exact k H'
theorem law_in {K : Fg} {H : Hp} {a : Addr} {ns : List Int} (hl : ns.length ≤ 63) (o : Only H) (hS : SqL K H a (ns.map V.int)) : spLaw K [.ref a] H (fun v _ => v = .bl true) fun _ _ _ => False := by
  refine ⟨a, ns, rfl, ?_, hl, fun _ => rfl⟩
  rcases hS with (h | ⟨o, h⟩) | h
  · rcases o a with z | ⟨_, _, z⟩
    · rw [z] at h; cases h
    · rw [z] at h; cases h
  · exact .inl ⟨o, h⟩
  · exact .inr h
end Dt

/-! Dt12: f-strings, methods of texts, xs[::-1] of a tuple. -/
namespace Dt
open PySem PySem.Spec L2
open PyProof.Rows hiding St
section
variable {X : Cx} {a b : Expr} {es : List Expr} {pos p : Pos} {f g fa fb : FE} {fs : List FE}
/-! ### f-strings -/
def jD (f : FE) : FE := fun ss => (f ss).bind fun d s1 => match d with
  | .str y => if y.length ≤ sizeLine then .ok (.str y) s1 else .no
  | .int i => if i.natAbs.log2 < 1920 then .ok (.str (toString i)) s1 else .no
  | _ => .no
theorem jd (h : PE X a (tD X.F f)) : PE X (.FormattedValue a (-1) none pos) (tD X.F (jD f)) := by
  refine (pe_fmt h).imp fun σ H Q q => ?_
  obtain ⟨fx, ss, d, s3, fr, e, k⟩ := q
  obtain ⟨x, s1, e1, e⟩ := bind_ok e
  split at e
  · split at e
    · rename_i hl
      cases e
      exact ⟨fx, ss, _, _, fr, e1, fun v H1 k1 f1 r1 => .inl ⟨_, r1.strv, hl, k _ _ k1 f1 (.str _)⟩⟩
    · cases e
  · split at e
    · rename_i hl
      cases e
      exact ⟨fx, ss, _, _, fr, e1, fun v H1 k1 f1 r1 => .inr ⟨_, r1.intv, hl, k _ _ k1 f1 (.str _)⟩⟩
    · cases e
  · cases e
def jsF : List FE → Str → SS → Res Str
  | [], acc, ss => .ok acc ss
  | f :: fs, acc, ss => (f ss).bind fun d s1 => match d with
    | .str y => if (acc ++ y).length ≤ sizeLine then jsF fs (acc ++ y) s1 else .no
    | _ => .no
def eJ (fs : List FE) : FE := fun ss => (jsF fs Str.empty ss).bind fun x s1 => .ok (.str x) s1
theorem js_read {K : Fg} {fx : Fx} : ∀ {fs : List FE} {acc out : Str} {ss s3 : SS} {σ : St} {H : Hp} {Q : Str → Hp → Prop}, FR K fx ss σ H → jsF fs acc ss = .ok out s3 → (∀ H', Kp H H' → FR K fx s3 σ H' → Q out H') → tJs (fs.map (tD K)) acc σ H Q
  | [], acc, out, ss, s3, σ, H, Q, fr, e, k => by
    cases e
    exact k H (Kp.refl H) fr
  | f :: fs, acc, out, ss, s3, σ, H, Q, fr, e, k => by
    unfold jsF at e
    obtain ⟨x, s1, e1, e⟩ := bind_ok e
    split at e
    · split at e
      · rename_i hl
        exact ⟨fx, ss, _, s1, fr, e1, fun v H1 k1 f1 r1 => ⟨_, r1.strv, hl, js_read f1 e fun H' k2 f2 => k H' (k1.trans k2) f2⟩⟩
      · cases e
    · cases e
theorem jn : PJ X [] (([] : List FE).map (tD X.F)) := .nil
theorem jc (h : PE X a (tD X.F f)) (r : PJ X es (fs.map (tD X.F))) : PJ X (a :: es) ((f :: fs).map (tD X.F)) := .cons h r
theorem xj {v1 v2 : Expr} {rest : List Expr} (h : PJ X (v1 :: v2 :: rest) (fs.map (tD X.F))) : PE X (.JoinedStr (v1 :: v2 :: rest) pos) (tD X.F (eJ fs)) := by
  refine (pe_joined h).imp fun σ H Q q => ?_
  obtain ⟨fx, ss, d, s3, fr, e, k⟩ := q
  obtain ⟨x, s1, e1, e⟩ := bind_ok e
  cases e
  exact js_read fr e1 fun H' k1 f1 => k _ _ k1 f1 (.str _)
theorem xj1 (h : PE X a (tD X.F f)) : PE X (.JoinedStr [a] pos) (tD X.F f) := pe_joined1 h
/-! ### x.m(e) -/
def nM1 (g : Str → D → Option O) (a b : FE) : FN := fun ss => (a ss).bind fun x s1 => match x with
  | .str x => (b s1).bind fun y s2 => .of (g x y) s2
  | _ => .no
theorem m1n_read {r : V → List V → Hp → VK → Prop} {g : Str → D → Option O} {e : Expr} (h : PE X e (tM1 r (tD X.F fa) (tD X.F fb))) (hr : ∀ (H : Hp) (x : Str) (v : V) (d : D) (z : O) (Q : VK), Rep X.F H v d → g x d = some z → (∀ p H', H p = none → Same H H' → OwnAt X.F H' p z → Q (.ref p) H') → r (.str x) [v] H Q) : PE X e (tN X.F (nM1 g fa fb)) := by
  refine h.imp fun σ H Q q => ?_
  obtain ⟨fx, ss, d, s3, fr, e, k⟩ := q
  obtain ⟨x, s1, e1, e⟩ := bind_ok e
  split at e
  · obtain ⟨y, s2, e2, e⟩ := bind_ok e
    obtain ⟨eg, rfl⟩ := of_ok e
    refine ⟨fx, ss, _, s1, fr, e1, fun v H1 k1 f1 r1 => ?_⟩
    obtain rfl := r1.strv
    exact ⟨⟨_, rfl⟩, fx, s1, y, _, f1, e2, fun u H2 k2 f2 r2 => hr H2 _ u y d Q r2 eg fun p H' hp sm ow => k p H' ((k1.trans k2).trans (.same sm)) (f2.same sm) ow (f2.newAt hp)⟩
  · cases e
def gSplit (x : Str) (d : D) : Option O := match d with
  | .str b => if (b.length == 0) = false ∧ x.length + 2 ≤ sizeLine then some (.lst ((Txt.split x b).map .str)) else none
  | _ => none
theorem mSplit {apos : Pos} (ho : PE X a (tD X.F fa)) (he : PE X b (tD X.F fb)) (hs : starEach [b] X.env = [(false, eval b X.env)] := by rfl) (hbase : attributeBase a "split" X.env (eval a X.env) = eval a X.env := by rfl) (hline : (apos.endLine == pos.line) = true := by rfl) :
    PE X (.Call (.Attribute a "split" apos) [b] [] pos) (tN X.F (nM1 gSplit fa fb)) := by
  refine m1n_read (pe_split ho he hs hbase hline) fun H x v d z Q rv hz k => ?_
  unfold gSplit at hz
  split at hz
  · split at hz
    · rename_i hl
      cases hz
      obtain rfl := rv.strv
      exact ⟨_, _, rfl, rfl, hl.1, hl.2, fun p hp => k p _ hp (same_new hp) ⟨_, upd_same, repStrs _⟩⟩
    · cases hz
  · cases hz
end
/-! ### t[::-1] -/
theorem places_rev (n : Nat) : Builtin.Slice.slicePlaces ((n : Int) - 1) (-1) (-1) = n := by
  unfold Builtin.Slice.slicePlaces
  have h1 : ¬ ((-1 : Int) > 0) := by omega
  simp only [h1, if_false]
  have e : (- -1 : Int) = 1 := by decide
  rw [e, Int.ediv_one]
  split <;> omega
theorem pick_rev (xs : Array Value) : ((List.range xs.size).filterMap fun (m : Nat) => xs[(((xs.size : Int) - 1) + (m : Int) * (-1)).toNat]?) = xs.toList.reverse := by
  have e : ∀ m ∈ List.range xs.size, xs[(((xs.size : Int) - 1) + (m : Int) * (-1)).toNat]? = xs.toList.reverse[m]? := fun m hm => by
    have hm := List.mem_range.mp hm
    rw [List.getElem?_reverse (by rw [Array.length_toList]; exact hm), Array.length_toList, Array.getElem?_toList]
    congr 1
    omega
  have hc : ∀ (l : List Nat) (f g : Nat → Option Value), (∀ m ∈ l, f m = g m) → l.filterMap f = l.filterMap g := fun l f g => by
    induction l with
    | nil => exact fun _ => rfl
    | cons x l ih => intro h; rw [List.filterMap_cons, List.filterMap_cons, h x List.mem_cons_self, ih fun m hm => h m (List.mem_cons_of_mem _ hm)]
  rw [hc _ _ _ e]
  have h := PySem.W.krv_all xs.toList.reverse.toArray
  simp only [List.size_toArray, List.length_reverse, Array.length_toList] at h
  refine Eq.trans ?_ h
  exact hc _ _ _ fun m _ => by simp
theorem applied_rev {prog : Program} {w : World} {A : Around} {E : Value → Shared → Prop} {s : Shared} {sl : Addr} {vl vu vs : Value} {n : Nat} {Q : Int × Int × Nat → Shared → Prop} (hs : s.heap.IsSliceOf sl vl vu vs) (pl : IsPart vl none) (pu : IsPart vu none) (ps : IsPart vs (some (-1)))
    (h : Q ((n : Int) - 1, -1, n) s) : wpAny (model prog w) A (Builtin.Slice.sliceApplied (.ref sl) (pure (n : Int))) Q E s := by
  obtain ⟨os, hos, hcs, hds⟩ := id hs
  unfold Builtin.Slice.sliceApplied Builtin.Slice.sliceFields
  refine wpAny_bind (wpAny_bind (wpAny_field hos hds (x := vl) rfl (wpAny_bind (wpAny_field hos hds (x := vu) rfl (wpAny_bind (wpAny_field hos hds (x := vs) rfl (wpAny_pure ?_)))))))
  refine wpAny_bind (HT.slicePart_ ps ?_)
  show wpAny _ _ (if ((-1 : Int) == 0) = true then _ else _) _ _ s
  rw [if_neg (by decide)]
  refine wpAny_bind (HT.slicePart_ pl (wpAny_bind (HT.slicePart_ pu (wpAny_bind (wpAny_pure ?_)))))
  show wpAny _ _ (pure ((n : Int) - 1, (-1 : Int), Builtin.Slice.slicePlaces ((n : Int) - 1) (-1) (-1))) _ _ s
  rw [places_rev]
  exact wpAny_pure h
theorem getItem_tuple_rev {prog : Program} {w : World} {A : Around} {E : Value → Shared → Prop} {s : Shared} {t sl : Addr} {items : Array Value} {vl vu vs : Value} {Q : Value → Shared → Prop} (ht : IsTup s.heap t items) (hs : s.heap.IsSliceOf sl vl vu vs) (pl : IsPart vl none) (pu : IsPart vu none) (ps : IsPart vs (some (-1)))
    (h : Q (.ref s.heap.objs.size) { s with heap := s.heap.push { cls := .type "tuple", data := .seq items.toList.reverse.toArray } })
    (hsz : items.size ≤ sizeLine) : wpAny (model prog w) A (getItem (.ref t) (.ref sl)) Q E s := by
  have htake : sizeOk (.seq items.toList.reverse.toArray) := by
    show items.toList.reverse.toArray.size ≤ sizeLine
    rw [List.size_toArray, List.length_reverse, Array.length_toList]
    exact hsz
  obtain ⟨os, hos, hcs, hds⟩ := id hs
  have hTs : s.TypeIs (.ref sl) "slice" := ⟨os, hos, hcs⟩
  unfold getItem
  try with_reducible refine wpAny_holding ?_
  first | refine wpAny_bind (wpAny_pure ?_) | skip
  refine wpAny_bind (wpAny_sequenceKey ht.typeIs (by decide) ?_)
  refine wpAny_bind (wpAny_callSpecial?_slot (name := Str.ofString "__getitem__") ht.typeIs PyProof.Rows.slot_tuple_getitem
    (wpAny_call_entry PyProof.Rows.slot_tuple_getitem ht.typeIs entry_tuple_getitem ?_ (args_tuple_getitem _ _)))
  show wpAny _ _ (Builtin.Tuple.tupleItemsOf (.ref t) >>= _) _ _ s
  refine wpAny_bind (tupleItemsOf_ ht ?_)
  refine wpAny_bind (wpAny_typeOf hTs ?_)
  rw [if_pos (by decide)]
  refine wpAny_bind (applied_rev hs pl pu ps ?_)
  have hno : ¬ ((((items.size : Int) - 1) == 0 && (-1 : Int) == 1 && items.size == items.size) = true) := by
    intro q
    rw [Bool.and_eq_true, Bool.and_eq_true] at q
    exact absurd q.1.2 (by decide)
  show wpAny _ _ (if (((items.size : Int) - 1) == 0 && (-1 : Int) == 1 && items.size == items.size) = true then _ else _) _ _ s
  rw [if_neg hno, pick_rev]
  first
    | exact wpAny_bind (m := Builtin.Tuple.tupleExact _) (wpAny_newObj_type (wpAny_pure ⟨_, rfl, wpAny_pure h⟩) htake)
    | exact wpAny_bind (m := Builtin.Tuple.tupleExact _) (wpAny_newObj_type (wpAny_bind (wpAny_pure (wpAny_pure ⟨_, rfl, wpAny_pure h⟩))) htake)
    | exact wpAny_bind (wpAny_bind (m := Builtin.Tuple.tupleExact _) (wpAny_newObj_type (wpAny_pure (wpAny_pure ⟨_, rfl, wpAny_pure h⟩)) htake))
    | exact wpAny_bind (wpAny_bind (m := Builtin.Tuple.tupleExact _) (wpAny_newObj_type (wpAny_pure ⟨_, rfl, wpAny_pure h⟩) htake))
section
variable {X : Cx} {a : Expr} {pos p1 p2 p3 : Pos} {k : Nat} {f : FE}
def revS (z : Str) : Str := ⟨z.cps.toList.reverse.toArray⟩
theorem idx_rev (n : Nat) : Builtin.Str.strSliceIndices none none (-1) n = (List.range n).map fun (k : Nat) => (((n : Int) - 1) + (-1) * (k : Int)).toNat := by
  simp only [Builtin.Str.strSliceIndices, sliceRange, show ¬ ((-1 : Int) > 0) from by decide, if_false]
  have e : (if (n : Int) - 1 > -1 then ((n : Int) - 1 - -1 - -1 - 1) / - -1 else 0) = (n : Int) := by
    have : - -(1 : Int) = 1 := by decide
    rw [this, Int.ediv_one]
    split <;> omega
  rw [e]
  rfl
theorem rev_picked (z : Str) : (⟨((Builtin.Str.strSliceIndices none none (-1) z.length).filterMap (z.cps[·]?)).toArray⟩ : Str) = revS z := by
  rw [idx_rev]
  unfold revS
  congr 2
  have e : ∀ m ∈ List.range z.length, z.cps[(((z.length : Int) - 1) + (-1) * (m : Int)).toNat]? = z.cps.toList.reverse[m]? := fun m hm => by
    have hm : m < z.cps.size := List.mem_range.mp hm
    rw [List.getElem?_reverse (by rw [Array.length_toList]; exact hm), Array.length_toList, Array.getElem?_toList]
    congr 1
    have : z.length = z.cps.size := rfl
    omega
  have hc : ∀ (l : List Nat) (f g : Nat → Option Nat), (∀ m ∈ l, f m = g m) → l.filterMap f = l.filterMap g := fun l f g => by
    induction l with
    | nil => exact fun _ => rfl
    | cons x l ih => intro h; rw [List.filterMap_cons, List.filterMap_cons, h x List.mem_cons_self, ih fun m hm => h m (List.mem_cons_of_mem _ hm)]
  rw [List.filterMap_map, hc _ ((fun x => z.cps[x]?) ∘ fun (k : Nat) => (((z.length : Nat) : Int) - 1 + -1 * (k : Int)).toNat) (fun m => z.cps.toList.reverse[m]?) e]
  have hz : z.length = z.cps.toList.reverse.length := by rw [List.length_reverse, Array.length_toList]; rfl
  rw [hz]
  generalize z.cps.toList.reverse = l
  induction l with
  | nil => rfl
  | cons x l ih =>
    rw [List.length_cons, List.range_succ_eq_map, List.filterMap_cons]
    simp only [List.getElem?_cons_zero, List.filterMap_map, Function.comp_def, List.getElem?_cons_succ]
    rw [ih]
def tRevT (K : PySem.W.Frag) (te : TE) : TE := fun σ H Q => te σ H fun x H1 => (∃ a xs, x = .ref a ∧ SqT K H1 a xs ∧ ∀ p, H1 p = none → Q (.ref p) (upd H1 p (.tup xs.reverse))) ∨ (∃ z, x = .str z ∧ z.length ≤ sizeLine ∧ Q (.str (revS z)) H1)
theorem pe_revT {e : Expr} {te : TE} (he : PE X e te) : PE X (.Subscript e (.Slice none none (some (.UnaryOp .USub (.Constant (.int 1) k p1) p2)) p3) pos) (tRevT X.F te) := by
  refine ⟨fun pins s σ H Q I h => ?_⟩
  refine Subscript_ (thn (he.run pins s σ H _ I h) fun v s1 ⟨x, H1, I1, r1, q1⟩ => ?_)
  have hst : PO X (some (.UnaryOp .USub (.Constant (.int 1) k p1) p2)) (tPart (tUn (rU fun i => .int (-i)) (tC (.int 1)))) := po_some (pe_un un_neg pe_int)
  refine wpAny_Slice (thn (po_none.run pins s1 σ H1 (fun o H2 => o = none ∧ H2 = H1) I1 ⟨rfl, rfl⟩) fun vl s2 ⟨l, H2, I2, pl, el, e2⟩ => ?_)
  subst el e2
  refine thn (po_none.run pins s2 σ H2 (fun o H3 => o = none ∧ H3 = H2) I2 ⟨rfl, rfl⟩) fun vu s3 ⟨u, H3, I3, pu, eu, e3⟩ => ?_
  subst eu e3
  refine thn (hst.run pins s3 σ H3 (fun o H4 => o = some (-1) ∧ H4 = H3) I3 ⟨1, rfl, -1, rfl, rfl, rfl⟩) fun vs s4 ⟨o, H4, I4, ps, eo, e4⟩ => ?_
  subst eo e4
  have I5 : Inv X pins σ H4 { s4 with heap := s4.heap.push { cls := .type "slice", data := .fields #[vl, vu, vs] } } := I4.kept (t' := s4.toks) fun b ob q => Heap.get?_push_of_some _ q
  show wpAny (model X.prog X.w) X.A (subscriptTail e (.Slice none none (some (.UnaryOp .USub (.Constant (.int 1) k p1) p2)) p3) v (.ref s4.heap.objs.size)) (EP X pins σ Q) X.xe { s4 with heap := s4.heap.push { cls := .type "slice", data := .fields #[vl, vu, vs] } }
  rcases q1 with ⟨a, xs, ex, hx, q⟩ | ⟨z, ex, hz, q⟩
  · subst ex
    cases r1
    obtain ⟨its, r, ht, hz⟩ := I5.tuple hx
    have hlen := r.length
    refine tail_any (ops := [.ref a, .ref s4.heap.objs.size]) ht.typeIs (PyProof.Rows.slot_tuple_getitem.lookup) ?_ (by with_unfolding_all rfl)
    refine getItem_tuple_rev ht (Heap.IsSliceOf.new _ vl vu vs) pl pu ps ?_ (by rw [List.size_toArray]; omega)
    refine ⟨.ref _, _, I5.laid (t' := s4.toks) (o := .tup xs.reverse) (fun b ob q => Heap.get?_push_of_some _ q) (Nat.le_refl _) ?_, rfl, q _ (I5.hok.fresh (Nat.le_refl _))⟩
    exact ⟨by rw [List.length_reverse]; exact hz, _, r.reverse, IsTup.new _ _⟩
  · subst ex
    obtain ⟨t, rfl⟩ := r1
    obtain ⟨l, hl1, hl2⟩ := IsPart.raw pl
    obtain ⟨u, hu1, hu2⟩ := IsPart.raw pu
    obtain ⟨st, hs1, hs2⟩ := IsPart.raw ps
    have hl : l = none := by cases l with | none => rfl | some _ => cases hl2
    have hu : u = none := by cases u with | none => rfl | some _ => cases hu2
    subst hl hu
    refine tail_any (ops := [.str z t, .ref s4.heap.objs.size]) (typeIs_str _ _ _) F.slot_str_getitem.lookup ?_ (by with_unfolding_all rfl)
    obtain ⟨os, hos, hcs, hds⟩ := Heap.IsSliceOf.new s4.heap vl vu vs
    refine wpAny_getItem_str_slice (l := none) (u := none) (st := st) ⟨os, hos, hcs, by rw [hds, hl1, hu1, hs1]⟩ (by rw [hs2]; rfl) ?_
    have hp : slicePicked z none none st = Builtin.Str.strSliceIndices none none (-1) z.length := by unfold slicePicked; rw [hs2]; rfl
    unfold sliceMade
    rw [hs2, hp, if_neg (by intro h; rw [Bool.and_eq_true] at h; exact absurd h.1 (by decide)), rev_picked]
    have hzl : (revS z).length ≤ sizeLine := by
      have : (revS z).length = z.length := by
        show (z.cps.toList.reverse.toArray).size = z.cps.size
        rw [List.size_toArray, List.length_reverse, Array.length_toList]
      omega
    exact ⟨hzl, .str _, _, I5.tok _, ⟨_, rfl⟩, q⟩
def eRev (f : FE) : FE := fun ss => (f ss).bind fun d s1 => match d with
  | .tuple ds => .ok (.tuple ds.reverse) s1
  | .str z => if z.length ≤ sizeLine then .ok (.str (revS z)) s1 else .no
  | _ => .no
theorem xrev (h : PE X a (tD X.F f)) : PE X (.Subscript a (.Slice none none (some (.UnaryOp .USub (.Constant (.int 1) k p1) p2)) p3) pos) (tD X.F (eRev f)) := by
  refine (pe_revT h).imp fun σ H Q q => ?_
  obtain ⟨fx, ss, d, s3, fr, e, k⟩ := q
  obtain ⟨x, s1, e1, e⟩ := bind_ok e
  split at e
  · cases e
    refine ⟨fx, ss, _, _, fr, e1, fun v H1 k1 f1 r1 => ?_⟩
    obtain ⟨q, xs, rfl, h1, r1⟩ := r1.tupv
    refine .inl ⟨q, xs, rfl, h1, fun p hp => k _ _ (k1.trans (.same (same_new hp))) (f1.same (same_new hp)) (.tup (.inl (.inl upd_same)) (r1.reverse.kp (.same (same_new hp))))⟩
  · split at e
    · rename_i hz
      cases e
      exact ⟨fx, ss, _, _, fr, e1, fun v H1 k1 f1 r1 => .inr ⟨_, r1.strv, hz, k _ _ k1 f1 (.str _)⟩⟩
    · cases e
  · cases e
end
end Dt

/-! Dt15: dicts of one's own. -/
namespace Dt
open PySem PySem.Spec L2
open PyProof.Rows hiding St
section
variable {X : Cx} {a b : Expr} {es : List Expr} {pos p : Pos} {f g : FE} {fl : FL} {x : Str}
/-- {} -/
def nDct : FN := fun ss => .ok (.dct []) ss
def nDnt : FN := fun ss => .ok (.dnt []) ss
theorem xdct : PE X (.Dict [] [] pos) (tN X.F nDct) := by
  refine pe_dnewK.imp fun σ H Q q => ?_
  obtain ⟨fx, ss, d, s3, fr, e, k⟩ := q
  cases e
  exact fun p hp => k p _ (.same (same_new hp)) (fr.new hp) ⟨[], [], upd_same, .nil, rfl⟩ (fr.newAt hp)
theorem nd_empty (P : Program) (w : World) (h : Heap) (hb : sysModules < h.objs.size) {H' : Hp} : ObjOk P w H' (h.push { cls := .type "dict", data := .dict #[] }) h.objs.size (NdO w h.objs.size [] []) := by
  have lo : (h.objs.size == sysModules) = false := by
    rw [beq_eq_false_iff_ne]
    exact fun e => absurd (e ▸ hb) (Nat.lt_irrefl _)
  exact nd_ok (P := P) (xs := []) (Nat.zero_le _) lo rfl .nil (Heap.DictOfH.new (knd := nestedKind P w) h)
theorem xdnt : PE X (.Dict [] [] pos) (tN X.F nDnt) := by
  refine ⟨fun pins s σ H Q I q => ?_⟩
  obtain ⟨fx, ss, d, s3, fr, e, k⟩ := q
  cases e
  have hp : H s.heap.objs.size = none := I.hok.fresh (Nat.le_refl _)
  refine wpAny_Dict_empty ⟨.ref s.heap.objs.size, _, I.laid (a := s.heap.objs.size) (o := NdO X.w s.heap.objs.size [] []) (t' := s.toks) (fun _ _ q => Heap.get?_push_of_some _ q) (Nat.le_refl _) (nd_empty X.prog X.w s.heap I.big), rfl, ?_⟩
  exact k _ _ (.same (same_new hp)) (fr.new hp) ⟨[], [], [], upd_same, rfl, .nil, .nil, rfl⟩ (fr.newAt hp)
/-- d[k] = v -/
def kvO : O → Option (Bool × List (D × D))
  | .dct kvs => some (false, kvs)
  | .dnt kvs => some (true, kvs)
  | _ => none
theorem kvO_some {o : O} {n : Bool} {kvs : List (D × D)} (h : kvO o = some (n, kvs)) : o = mkO n kvs := by
  cases o <;> cases h <;> rfl
def rSetD (K : Fg) : V → V → V → Hp → (Hp → Prop) → Prop := fun o i v H Q => ∃ a n kvs k e, o = .ref a ∧ OwnAt K H a (mkO n kvs) ∧ Rep K H i k ∧ kGood n k = true ∧ Rep K H v e ∧ kvs.length < sizeLine ∧
  ∀ ho, (Kp H (upd H a ho) → OwnAt K (upd H a ho) a (mkO n (dput kvs k e))) → Q (upd H a ho)
theorem set_dict (hu : X.A.units + 64 < cLine) : PSet X (rSetD X.F) := by
  intro pins s σ H o i v ov iv u Q I ro ri rv ⟨a, n, kvs, k, e, eo, g, hk, kg, hv, hl, q⟩
  subst eo
  obtain rfl : ov = Value.ref a := ro
  exact da_set hu I g hk kg ri rv hv hl fun ho s' I' w => ⟨_, I', q ho w⟩
def sSetD (i : Nat) (fi fv : FE) : FS := fun ss => match fv ss with
  | .no => .no
  | .ok d s1 => match (objAt s1 i).bind kvO with
    | some _ => match fi s1 with
      | .ok k s2 => match s2[i]? with
        | some s => match s.obj.bind kvO with
          | some (n, kvs) => if kGood n k = true ∧ kvs.length < sizeLine then .nx (s2.set i (s.put (mkO n (dput kvs k d)))) else .no
          | none => .no
        | none => .no
      | .no => .no
    | none => .no
theorem ssetD (i : Nat) {st : Stmt} {fi fv : FE} (h : PS X st (tAsg (tD X.F fv) (gSub (tVar i) (tD X.F fi) (rSetD X.F)))) : PS X st (tS X.F (sSetD i fi fv)) := by
  refine h.imp fun E σ H q => ?_
  obtain ⟨fx, ss, fr, k⟩ := tS_iff.mp q
  unfold sSetD at k
  split at k
  · exact k.elim
  rename_i d s1 e1
  split at k
  rotate_left
  · exact k.elim
  rename_i o0 ho0
  split at k
  rotate_left
  · exact k.elim
  rename_i kk s2 e2
  split at k
  rotate_left
  · exact k.elim
  rename_i s es_
  split at k
  rotate_left
  · exact k.elim
  rename_i n kvs ho
  split at k
  rotate_left
  · exact k.elim
  rename_i hc
  obtain ⟨u, eo2, ku⟩ := Option.bind_eq_some_iff.mp ho
  obtain ⟨u0, eo0, _⟩ := Option.bind_eq_some_iff.mp ho0
  have ku := kvO_some ku
  subst ku
  refine ⟨fx, ss, d, s1, fr, e1, fun v H1 k1 f1 r1 => ?_⟩
  obtain ⟨s0, e0, eo⟩ := objAt_some eo0
  obtain ⟨q, h1, _, _⟩ := (f1.slot i s0 e0).obj eo
  refine ⟨_, h1, fx, s1, _, s2, f1, e2, fun w H2 k2 f2 r2 => ?_⟩
  obtain ⟨q2, z1, z2, _⟩ := (f2.slot i s es_).obj eo2
  rw [h1] at z1
  cases z1
  refine ⟨q, n, kvs, kk, d, rfl, z2, r2, hc.1, r1.kp k2, hc.2, fun ho hw => ?_⟩
  obtain ⟨f3, k3⟩ := f2.mut (o' := mkO n (dput kvs kk d)) (u := ho) es_ eo2 h1 hw
  exact k _ _ ((k1.trans k2).trans k3) f3
/-- d[k] -/
def rIxOD (K : Fg) : R2 := fun x y H Q => ∃ a n kvs k d, x = .ref a ∧ DAt K H a n kvs ∧ Rep K H y k ∧ kGood n k = true ∧ look kvs k = some d ∧ ∀ v, Rep K H v d → Q v H
theorem ixOD (hu : X.A.units + 64 < cLine) : IxR X (rIxOD X.F) := by
  intro value slice pins s σ H x y v u Q I rx ry ⟨a, n, kvs, k, d, ex, g, hk, kg, l, q⟩ hs
  subst ex
  obtain rfl : v = Value.ref a := rx
  exact ixd_of (da_type I g) PySem.F.slot_dict_getitem.lookup hs (da_getItem hu I g hk kg ry l fun v w s' I' r' h' => ⟨v, H, I', r', q v h'⟩)
def eOixD (i : Nat) (f : FE) : FE := fun ss => match objAt ss i with
  | some _ => (f ss).bind fun k s1 => match (objAt s1 i).bind kvO with
    | some (n, kvs) => if kGood n k = true then .of (look kvs k) s1 else .no
    | none => .no
  | none => .no
theorem xoixD (i : Nat) (h : PE X a (tOp (rIxOD X.F) (tVar i) (tD X.F f))) : PE X a (tD X.F (eOixD i f)) := by
  refine h.imp fun σ H Q q => ?_
  obtain ⟨fx, ss, d, s3, fr, e, k⟩ := q
  unfold eOixD at e
  split at e
  rotate_left
  · cases e
  rename_i o ho
  obtain ⟨s0, e0, eo⟩ := objAt_some ho
  obtain ⟨q, h1, _, _⟩ := (fr.slot i s0 e0).obj eo
  obtain ⟨y, s1, e1, e⟩ := bind_ok e
  refine ⟨_, h1, fx, ss, y, s1, fr, e1, fun w H1 k1 f1 r1 => ?_⟩
  split at e
  rotate_left
  · cases e
  rename_i n kvs ho1
  split at e
  rotate_left
  · cases e
  rename_i hg
  obtain ⟨eg, rfl⟩ := of_ok e
  obtain ⟨u, eu, ku⟩ := Option.bind_eq_some_iff.mp ho1
  have ku := kvO_some ku
  subst ku
  obtain ⟨s', a1, a2⟩ := objAt_some eu
  obtain ⟨q2, z1, z2, _⟩ := (f1.slot i s' a1).obj a2
  rw [h1] at z1
  cases z1
  exact ⟨q, n, kvs, y, d, rfl, z2.dat, r1, hg, eg, fun v hv => k v H1 k1 f1 hv⟩
end
end Dt

/-! Dt16: folded(text): two replaces; their texts' tokens are told apart once one token is given out. -/
namespace Dt
open PySem PySem.Spec L2
open PyProof.Rows hiding St
def foldS (x : Str) : Str := Txt.replace (Txt.replace x "~" "~~") "\n" "~n"
/-- its promise: one token is given out -/
def FoldRun (P : Program) (w : World) (K : PySem.W.Frag) (mg : Str → Option Value) (base : Heap) (k : Nat) (f : Addr) : Prop :=
  ∀ (A : Around) (outer : List Env) (s : Shared) (H : Hp) (x : Str) (tx : Tok) (Q : VK) (E : XK), Room k A → Env0 P w K mg base A outer s H → 1 ≤ s.toks →
    x.length ≤ 100000 → Q (.str (foldS x)) H → codeAny (model P w) A (.call (.ref f) ⟨[.str x tx], []⟩) (CR CX0 outer P w H s Q E) s
theorem fold_run {P : Program} {w : World} {K : PySem.W.Frag} {mg : Str → Option Value} {base : Heap} {k : Nat} {f : Addr} {name qual : Str} {params : Arguments} {scope : Scope} {dV kV doc pm cdv ct oc : Value} {an od : Option Addr}
    {osl : Array (Option Value)} {N : List Str} {p1 a1 c1 q1 q2 a2 c2 q3 q4 rpos : Pos} {j1 j2 j3 j4 : Nat} {a0 : Str} {body : List Stmt}
    (hbd : body = [.Return (some (.Call (.Attribute (.Call (.Attribute (.Name a0 p1) "replace" a1) [.Constant (.str "~") j1 q1, .Constant (.str "~~") j2 q2] [] c1) "replace" a2) [.Constant (.str "\n") j3 q3, .Constant (.str "~n") j4 q4] [] c2)) rpos])
    (lk : K.lookup f = some ⟨oc, od, .func (PySem.W.fnOf name qual params body scope dV kV doc pm an cdv ct), osl⟩) (hcd : PySem.W.codeIn K cdv qual = true) (S : FnScope N [a0] scope)
    (hb : ∀ us : List Value, us.length = 1 → bindArgs (PySem.W.fnOf name qual params body scope dV kV doc pm an cdv ct) ⟨us, []⟩ = pure ([a0].zip us))
    (h0 : scope.names.lookup a0 = some .local) (d0 : (a0 == ("__debug__" : Str)) = false) (hl1 : (a1.endLine == c1.line) = true) (hl2 : (a2.endLine == c2.line) = true) : FoldRun P w K mg base (k + 1) f := by
  intro A outer s H x tx Q E hr e0 htok hx q
  subst hbd
  have KX : K.In s.heap := e0.mod.kin.keeps fun b o e => (e0.bs b o e).1
  have lim : s.heap.NoLimit := e0.mod.nolimit.keeps fun b o e => (e0.bs b o e).1
  have hkind : ∀ v ∈ [a0].zip [Value.str x tx], scope.names.lookup v.1 = some .local ∨ (scope.names.lookup v.1 = some .cell ∧ ((cellsFrom (s.heap.objs.size + 1) scope.names []).lookup v.1).isSome = true) := fun ⟨n, v⟩ hy => by
    rcases S.par n (List.of_mem_zip hy).1 with q | q
    · exact .inl q
    · exact .inr ⟨q, PySem.W.cellsFrom_some _ _ _ (.inl q)⟩
  refine codeAny_call_function hr.depth (KX _ _ lk) rfl S.co S.gen rfl (PySem.W.codeRec_of KX hcd) (BindsTo.of_eq (hb [.str x tx] rfl) _ _ _ _ ?_)
  refine wpAny_with_toks (n := 1) htok ?_
  refine wpAny_newFunctionEnv_cells S.kind hkind fun env he s1 xx ht1 => ?_
  subst he
  refine ⟨lim.keeps xx.toInCall.keep, codeAny_func ?_⟩
  have rv : Vals [V.str x] [Value.str x tx] := .cons ⟨tx, rfl⟩ .nil
  have I : Inv (cxOf CX0 P w K mg base N qual scope f cdv A outer s H E) [] (start N [.str x]) H s1 := inv_start S hr.hd e0 rfl rv xx
  have hn := xx.toInCall.ns
  have nd : [a0].Nodup := by simp
  have m0 := bindL_get (kindOf := (envOfC qual scope s.heap.objs.size f cdv).kindOf) (x := a0) (v := Value.str x tx) (P := [a0]) (vs := [.str x tx]) (i := 0) (m := fun _ => none) nd rfl rfl h0
  have fin : ∀ {σ' : St} {H' : Hp} {v : V} {r : Value} {s' : Shared}, Inv (cxOf CX0 P w K mg base N qual scope f cdv A outer s H E) [] σ' H' s' → RelV v r → Q v H' → CE outer P w H s Q r s' :=
    fun {σ' H' v r s'} J rv q => ⟨v, H', J.os, J.bare, J.base, J.hok, rv, q⟩
  have l1 : (Txt.replace x "~" "~~").length ≤ 400000 := by
    have := TK.replace_len x "~" "~~"
    have e : ("~~" : Str).length = 2 := by decide +kernel
    rw [e] at this
    omega
  refine wpAny_execs_cons (wpAny_Return_some (PySem.Call_method2 rfl rfl hl2 (PySem.Call_method2 rfl rfl hl1 (wpAny_Name (wpAny_loadName_local S.kind h0 hn m0 ?_) d0))))
  refine ⟨"str", _, F.plainAttrs_str, F.slot_str_replace, F.type_str_replace, typeIs_str _ _ _, (fun _ e => nomatch e), Calls.callWith_builtin rfl (Calls.evalArgs_plain (Calls.spliced_cons (Calls.Constant_str (Calls.spliced_cons (Calls.Constant_str (Calls.spliced_nil ?_))))))⟩
  have t1 : s1.toks ≠ 0 := by omega
  refine wpAny_with_toks (n := 1) (by show 1 ≤ s1.toks + 1 + 1; omega) ?_
  refine PySem.SC.replace t1 (by show s1.toks + 1 ≠ 0; omega) (by show s1.toks ≠ s1.toks + 1; omega) (by decide +kernel) (by
    have e : ("~~" : Str).length = 2 := by decide +kernel
    rw [e]; omega) fun t' k' hk' => ?_
  have hk2 : 1 ≤ k' := hk'
  refine ⟨"str", _, F.plainAttrs_str, F.slot_str_replace, F.type_str_replace, typeIs_str _ _ _, (fun _ e => nomatch e), Calls.callWith_builtin rfl (Calls.evalArgs_plain (Calls.spliced_cons (Calls.Constant_str (Calls.spliced_cons (Calls.Constant_str (Calls.spliced_nil ?_))))))⟩
  exact PySem.SC.replace (by show k' ≠ 0; omega) (by show k' + 1 ≠ 0; omega) (by show k' ≠ k' + 1; omega) (by decide +kernel) (by
    have e : ("~n" : Str).length = 2 := by decide +kernel
    rw [e]; omega) fun t'' k'' => fin (v := V.str (foldS x)) (r := Value.str (foldS x) t'') (I.tok k'') ⟨t'', rfl⟩ q
/-! an f-string gives out a token -/
def PEt (X : Cx) (e : Expr) (t : TE) : Prop :=
  ∀ (pins : List (Addr × Obj)) (s : Shared) (σ : St) (H : Hp) (Q : VK), Inv X pins σ H s → t σ H Q → wpAny (model X.prog X.w) X.A (eval e X.env) (fun u s' => 1 ≤ s'.toks ∧ EP X pins σ Q u s') X.xe s
section
variable {X : Cx} {a b : Expr} {es : List Expr} {pos p : Pos} {f g : FE} {fs : List FE} {x : Str}
theorem pet_joined {v1 v2 : Expr} {rest : List Expr} {ts : List TE} {pos : Pos} (h : PJ X (v1 :: v2 :: rest) ts) : PEt X (.JoinedStr (v1 :: v2 :: rest) pos) (fun σ H Q => tJs ts Str.empty σ H fun out H1 => Q (.str out) H1) := by
  intro pins s σ H Q I q
  exact wpAny_JoinedStr (pj_run h Str.empty s H (fun out H1 => Q (.str out) H1) _ (Nat.zero_le _) I q fun out s1 H1 hz I1 q1 => ⟨hz, Nat.le_add_left _ _, .str out, H1, I1.tok _, ⟨_, rfl⟩, q1⟩)
theorem xjt {v1 v2 : Expr} {rest : List Expr} (h : PJ X (v1 :: v2 :: rest) (fs.map (tD X.F))) : PEt X (.JoinedStr (v1 :: v2 :: rest) pos) (tD X.F (eJ fs)) := by
  intro pins s σ H Q I q
  refine pet_joined h pins s σ H Q I ?_
  obtain ⟨fx, ss, d, s3, fr, e, k⟩ := q
  obtain ⟨x, s1, e1, e⟩ := bind_ok e
  cases e
  exact js_read fr e1 fun H' k1 f1 => k _ _ k1 f1 (.str _)
/-- f'..' + folded(e) -/
def eFold (f : FE) : FE := fun ss => (f ss).bind fun d s1 => match d with
  | .str x => if x.length ≤ 100000 then .ok (.str (foldS x)) s1 else .no
  | _ => .no
def OkFold (P : Program) (K : Fg) (mg : Str → Option Value) (base : Heap) (k : Nat) (x : Str) : Prop := ∃ f, FoldRun P K.w K.k mg base k f ∧ mg x = some (.ref f) ∧ PySem.W.keepIn K (.ref f) = true
theorem xaddF {k : Nat} {pc pf : Pos} (G : OkFold X.prog X.F X.mg X.base k x) (hr : Room k X.A) (ha : PEt X a (tD X.F f)) (hb : PE X b (tD X.F g)) (hg : Gl X x := by rfl) (hdb : (x == ("__debug__" : Str)) = false := by decide)
    (he : starEach [b] X.env = (false, eval b X.env) :: starEach [] X.env := by rfl) (hpl : (backTo pc (starEach [] X.env)).any (·.1) = false := by rfl) :
    PE X (.BinOp a .Add (.Call (.Name x pf) [b] [] pc) pos) (tD X.F (eOp dAdd f (eFold g))) := by
  obtain ⟨fa, R, hm, hk⟩ := G
  refine ⟨fun pins s σ H Q I q => ?_⟩
  have q2 : tOp (rD X.F dAdd) (tD X.F f) (tD X.F (eFold g)) σ H Q := cmp_read q
  refine wpAny_BinOp (thn (ha pins s σ H _ I q2) fun v s1 ⟨ht, y, H1, I1, r1, fx, ss, d, s3, fr, e, kk⟩ => ?_)
  obtain ⟨d0, s4, e1, e⟩ := bind_ok e
  split at e
  rotate_left
  · cases e
  rename_i z
  split at e
  rotate_left
  · cases e
  rename_i hz
  cases e
  refine wpAny_Call_Name_kw (ld_glob I1 hg hm ?_ hdb)
  refine PySem.W.callWith_K (h₀ := X.base) I1.ok.mod.kin hk ?_ he hpl
  have A : PA X [b] (tCons (tD X.F g) tNil) := pa_cons hb pa_nil he
  refine wpAny_mono (wpAny_toks_of ht (A.run pc pins s1 σ H1 (fun vs H2 => ∃ v2', vs = [v2'] ∧ Kp H1 H2 ∧ FR X.F fx s3 σ H2 ∧ Rep X.F H2 v2' (.str z)) I1 ⟨fx, ss, _, _, fr, e1, fun v2 H2 k2 f2 r2 => ⟨v2, rfl, k2, f2, r2⟩⟩)) (fun us s2 ⟨ht2, vs, H2, I2, r2, v2, ev, k2, f2, rp⟩ => ?_) fun _ _ x => x.2
  subst ev
  obtain rfl := rp.strv
  cases r2 with
  | cons r3 r4 =>
    cases r4
    obtain ⟨tz, rfl⟩ := r3
    refine ⟨I2.kIn, wpAny_call (codeAny_mono (R X.A X.stack s2 H2 z tz (fun y1 H2 => rD X.F dAdd y y1 H2 Q) (fun _ _ _ => False) hr I2.env0 ht2 hz (kk _ H2 k2 f2 (.str _))) fun r s' hq => ?_)⟩
    cases r with
    | error e => exact hq.elim
    | ok fl =>
      cases fl with
      | ret u =>
        obtain ⟨w, H3, I3, r3, q3⟩ := I2.after hq
        exact opAdd pins s' σ H3 _ _ _ _ Q I3 r1 r3 q3
      | next => exact False.elim hq
      | brk => exact False.elim hq
      | cont => exact False.elim hq
end
theorem ok_fold {P : Program} {K : Fg} {mg : Str → Option Value} {base : Heap} {k : Nat} {x a0 : Str} {st : Stmt} {N : List Str} {p1 a1 c1 q1 q2 a2 c2 q3 q4 rpos : Pos} {j1 j2 j3 j4 : Nat} (a : At K mg x st [a0]) (S : FnScope N [a0] (defScope st))
    (hbd : defBody st = [.Return (some (.Call (.Attribute (.Call (.Attribute (.Name a0 p1) "replace" a1) [.Constant (.str "~") j1 q1, .Constant (.str "~~") j2 q2] [] c1) "replace" a2) [.Constant (.str "\n") j3 q3, .Constant (.str "~n") j4 q4] [] c2)) rpos])
    (h0 : (defScope st).names.lookup a0 = some .local) (d0 : (a0 == ("__debug__" : Str)) = false) (hl1 : (a1.endLine == c1.line) = true) (hl2 : (a2.endLine == c2.line) = true) : OkFold P K mg base (k + 1) x := by
  obtain ⟨f, fd, Fn, m, bi⟩ := a
  obtain ⟨oc, od, kV, doc, pm, an, cdv, ct, osl, rfl, lk, hcd⟩ := Fn.ex
  exact ⟨f, fold_run hbd lk hcd S bi h0 d0 hl1 hl2, m, Fn.kp⟩
end Dt

/-! Dt17: extend, get, two own dicts at once. -/
namespace Dt
open PySem PySem.Spec L2
open PyProof.Rows hiding St
section
variable {X : Cx} {a b c : Expr} {f g h : FE} {fn : FN} {pos : Pos}
/-- xs.extend(e) with a new list -/
def sExt (i : Nat) (fn : FN) : FS := fun ss => match objAt ss i with
  | some (.lst _) => match fn ss with
    | .ok (.lst es) s1 => match s1[i]? with
      | some s => match s.obj with
        | some (.lst ds) => if ds.length + es.length ≤ sizeLine then .nx (s1.set i (s.put (.lst (ds ++ es)))) else .no
        | _ => .no
      | none => .no
    | _ => .no
  | _ => .no
theorem sext (i : Nat) {st : Stmt} (h : PS X st (tDrop (tBM X.F "list" rExtend (tVar i) (tCons (tN X.F fn) tNil)))) : PS X st (tS X.F (sExt i fn)) := by
  refine h.imp fun E σ H q => ?_
  obtain ⟨fx, ss, fr, k⟩ := tS_iff.mp q
  unfold sExt at k
  split at k
  rotate_left
  · exact k.elim
  rename_i ds0 ho
  obtain ⟨s0, e0, eo⟩ := objAt_some ho
  obtain ⟨q, h1, ⟨xs, h2, _⟩, _⟩ := (fr.slot i s0 e0).obj eo
  refine ⟨_, h1, .inl ⟨rfl, xs, .of h2⟩, ?_⟩
  split at k
  rotate_left
  · exact k.elim
  rename_i es s1 e1
  split at k
  rotate_left
  · exact k.elim
  rename_i s es_
  split at k
  rotate_left
  · exact k.elim
  rename_i ds eo2
  split at k
  rotate_left
  · exact k.elim
  rename_i hl
  refine ⟨fx, ss, _, s1, fr, e1, fun p H1 k1 f1 ow nw => ?_⟩
  obtain ⟨zs, w1, w2⟩ := ow
  obtain ⟨q2, z1, ⟨ys, z2, z3⟩, _⟩ := (f1.slot i s es_).obj eo2
  rw [h1] at z1
  cases z1
  obtain ⟨f2, k2⟩ := f1.mut (o' := .lst (ds ++ es)) (u := .lst (ys ++ zs)) es_ eo2 h1 fun kk => ⟨_, upd_same, (z3.append w2).kp kk⟩
  exact ⟨q, p, ys, zs, rfl, rfl, z2, w1, by rw [z3.len, w2.len]; exact hl, k _ _ (k1.trans k2) f2⟩
/-- d.get(k, e) -/
def gGet (d k e : D) : Option D := match kvsOf d with
  | some (n, kvs) => if kGood n k = true then some ((look kvs k).getD e) else none
  | none => none
def eGet (f g h : FE) : FE := fun ss => (f ss).bind fun d s1 => (g s1).bind fun k s2 => (h s2).bind fun e s3 => .of (gGet d k e) s3
theorem da_obj {pins : List (Addr × Obj)} {σ : St} {H : Hp} {s : Shared} {p : Addr} {n : Bool} {kvs : List (D × D)} (I : Inv X pins σ H s) (g : DAt X.F H p n kvs) : ∀ q, Value.ref p = .ref q → ∃ ob, s.heap.get? q = some ob ∧ ob.dict = none := by
  intro q e
  cases e
  cases g with
  | k hr rr => exact (isD_at I (.inl ⟨_, hr⟩)).2.1 p rfl
  | n hr h0 h1 h2 =>
    obtain ⟨_, _, xs, _, _, dd⟩ := nd_at I hr h0 h1
    obtain ⟨ob, _, _, w1, w2, _⟩ := dd
    exact ⟨ob, w1, w2.2.1⟩
theorem xget {apos cpos : Pos} (hu : X.A.units + 64 < cLine) (ho : PE X a (tD X.F f)) (he : PE X b (tD X.F g)) (hf : PE X c (tD X.F h)) (hbase : attributeBase a "get" X.env (eval a X.env) = eval a X.env := by rfl)
    (hfew : ((backTo cpos (starEach [b, c] X.env)).all (fun x => !x.1) && (backToKw cpos (keywordEach [] X.env)).all (fun x => x.1.isSome) && decide (([b, c] : List Expr).length + ([] : List Keyword).length + (if ([] : List Keyword).isEmpty then 0 else 1) < 30)) = true := by rfl)
    (hline : (apos.endLine == cpos.line) = true := by rfl) (htr : backTo cpos (starEach [b, c] X.env) = [(false, eval b X.env), (false, eval c X.env)] := by rfl) :
    PE X (.Call (.Attribute a "get" apos) [b, c] [] cpos) (tD X.F (eGet f g h)) := by
  refine ⟨fun pins s σ H Q I q => ?_⟩
  obtain ⟨fx, ss, z, s9, fr, e, kk⟩ := q
  obtain ⟨d, s1, e1, e⟩ := bind_ok e
  obtain ⟨k, s2, e2, e⟩ := bind_ok e
  obtain ⟨y, s3, e3, e⟩ := bind_ok e
  obtain ⟨eg, rfl⟩ := of_ok e
  unfold gGet at eg
  split at eg
  rotate_left
  · cases eg
  rename_i n kvs hk
  split at eg
  rotate_left
  · cases eg
  rename_i hg
  cases eg
  refine wpAny_Call_method hbase hfew hline PySem.F.plainAttrs_dict PySem.F.slot_dict_get PySem.F.type_dict_get (thn (ho.run pins s σ H (fun v H1 => Kp H H1 ∧ FR X.F fx s1 σ H1 ∧ Rep X.F H1 v d) I ⟨fx, ss, d, s1, fr, e1, fun v H1 k1 f1 r1 => ⟨k1, f1, r1⟩⟩) fun u t1 ⟨v, H1, I1, rv, k1, f1, r1⟩ => ?_)
  obtain ⟨p, ev, da⟩ := r1.dat hk
  subst ev
  obtain rfl : u = Value.ref p := rv
  refine ⟨da_type I1 da, da_obj I1 da, ?_⟩
  rw [htr]
  refine Calls.callWith_builtin rfl (Calls.evalArgs_plain (Calls.spliced_cons (thn (he.run pins t1 σ H1 (fun v H2 => Kp H1 H2 ∧ FR X.F fx s2 σ H2 ∧ Rep X.F H2 v k) I1 ⟨fx, s1, k, s2, f1, e2, fun v H2 k2 f2 r2 => ⟨k2, f2, r2⟩⟩) fun iv t2 ⟨w, H2, I2, rw_, k2, f2, r2⟩ =>
    Calls.spliced_cons (thn (hf.run pins t2 σ H2 (fun v H3 => Kp H2 H3 ∧ FR X.F fx s9 σ H3 ∧ Rep X.F H3 v y) I2 ⟨fx, s2, y, s9, f2, e3, fun v H3 k3 f3 r3 => ⟨k3, f3, r3⟩⟩) fun jv t3 ⟨x, H3, I3, rx, k3, f3, r3⟩ => Calls.spliced_nil ?_))))
  obtain ⟨p', ep, da3⟩ := (r1.kp (k2.trans k3)).dat hk
  cases ep
  exact da_get2 hu I3 da3 (r2.kp k3) hg rw_ rx r3 fun v w' t4 I4 rw' rr => ⟨v, H3, I4, rw', kk _ _ (k1.trans (k2.trans k3)) f3 rr⟩
/-- the same of an object of one's own -/
def eOget (i : Nat) (g h : FE) : FE := fun ss => match (objAt ss i).bind kvO with
  | some _ => (g ss).bind fun k s1 => (h s1).bind fun e s2 => match (objAt s2 i).bind kvO with
    | some (n, kvs) => if kGood n k = true then .ok ((look kvs k).getD e) s2 else .no
    | none => .no
  | none => .no
theorem xoget (i : Nat) {apos cpos : Pos} (hu : X.A.units + 64 < cLine) (ho : PE X a (tVar i)) (he : PE X b (tD X.F g)) (hf : PE X c (tD X.F h)) (hbase : attributeBase a "get" X.env (eval a X.env) = eval a X.env := by rfl)
    (hfew : ((backTo cpos (starEach [b, c] X.env)).all (fun x => !x.1) && (backToKw cpos (keywordEach [] X.env)).all (fun x => x.1.isSome) && decide (([b, c] : List Expr).length + ([] : List Keyword).length + (if ([] : List Keyword).isEmpty then 0 else 1) < 30)) = true := by rfl)
    (hline : (apos.endLine == cpos.line) = true := by rfl) (htr : backTo cpos (starEach [b, c] X.env) = [(false, eval b X.env), (false, eval c X.env)] := by rfl) :
    PE X (.Call (.Attribute a "get" apos) [b, c] [] cpos) (tD X.F (eOget i g h)) := by
  refine ⟨fun pins s σ H Q I q => ?_⟩
  obtain ⟨fx, ss, z, s9, fr, e, kk⟩ := q
  unfold eOget at e
  split at e
  rotate_left
  · cases e
  rename_i o hob
  obtain ⟨k, s2, e2, e⟩ := bind_ok e
  obtain ⟨y, s3, e3, e⟩ := bind_ok e
  split at e
  rotate_left
  · cases e
  rename_i n kvs hk
  split at e
  rotate_left
  · cases e
  rename_i hg
  cases e
  obtain ⟨o1, hob1, hob2⟩ := Option.bind_eq_some_iff.mp hob
  obtain ⟨n0, kvs0⟩ := o
  have := kvO_some hob2
  subst this
  obtain ⟨s0, e0, eo⟩ := objAt_some hob1
  obtain ⟨p, h1, h2, _⟩ := (fr.slot i s0 e0).obj eo
  refine wpAny_Call_method hbase hfew hline PySem.F.plainAttrs_dict PySem.F.slot_dict_get PySem.F.type_dict_get (thn (ho.run pins s σ H (fun v H1 => v = .ref p ∧ H1 = H) I ⟨_, h1, rfl, rfl⟩) fun u t1 ⟨v, H1, I1, rv, ev, eH⟩ => ?_)
  subst ev eH
  obtain rfl : u = Value.ref p := rv
  refine ⟨da_type I1 h2.dat, da_obj I1 h2.dat, ?_⟩
  rw [htr]
  refine Calls.callWith_builtin rfl (Calls.evalArgs_plain (Calls.spliced_cons (thn (he.run pins t1 σ H1 (fun v H2 => Kp H1 H2 ∧ FR X.F fx s2 σ H2 ∧ Rep X.F H2 v k) I1 ⟨fx, ss, k, s2, fr, e2, fun v H2 k2 f2 r2 => ⟨k2, f2, r2⟩⟩) fun iv t2 ⟨w, H2, I2, rw_, k2, f2, r2⟩ =>
    Calls.spliced_cons (thn (hf.run pins t2 σ H2 (fun v H3 => Kp H2 H3 ∧ FR X.F fx s9 σ H3 ∧ Rep X.F H3 v y) I2 ⟨fx, s2, y, s9, f2, e3, fun v H3 k3 f3 r3 => ⟨k3, f3, r3⟩⟩) fun jv t3 ⟨x, H3, I3, rx, k3, f3, r3⟩ => Calls.spliced_nil ?_))))
  obtain ⟨o3, hob3, hob4⟩ := Option.bind_eq_some_iff.mp hk
  have := kvO_some hob4
  subst this
  obtain ⟨s4, e4, eo4⟩ := objAt_some hob3
  obtain ⟨p', g1, g2, _⟩ := (f3.slot i s4 e4).obj eo4
  rw [h1] at g1
  cases g1
  exact da_get2 hu I3 g2.dat (r2.kp k3) hg rw_ rx r3 fun v w' t4 I4 rw' rr => ⟨v, H3, I4, rw', kk _ _ (k2.trans k3) f3 rr⟩
end
end Dt

/-! Dt18: dict comprehensions, keys of both kinds. -/
namespace Dt
open PySem PySem.Spec L2
open PyProof.Rows hiding St
section
variable {X : Cx} {pins : List (Addr × Obj)} {σ : St} {H : Hp} {s : Shared} {a : Addr} {n : Bool} {kvs : List (D × D)} {y v : V} {u r : Value} {k e : D} {E : Value → Shared → Prop}
/-- one pair put into a dict that a comprehension makes -/
theorem da_put {Q : Unit → Shared → Prop} (hu : X.A.units + 64 < cLine) (I : Inv X pins σ H s) (g : OwnAt X.F H a (mkO n kvs)) (hk : Rep X.F H y k) (kg : kGood n k = true) (ry : RelV y u) (rv : RelV v r) (hv : Rep X.F H v e) (hl : kvs.length < sizeLine)
    (h : ∀ ho s', Inv X pins σ (upd H a ho) s' → (Kp H (upd H a ho) → OwnAt X.F (upd H a ho) a (mkO n (dput kvs k e))) → Q () s') : wpAny (model X.prog X.w) X.A (dictSet a u r) Q E s := by
  cases n with
  | false =>
    obtain ⟨kv0, es, h1, h2, rfl⟩ := g
    obtain ⟨key, rfl, rfl⟩ := good_k kg hk
    have hn : es.length = kv0.length := by rw [← h2.len, List.length_map]
    rw [List.length_zip, List.length_map] at hl
    obtain ⟨ds', p1, p2⟩ := put_k (k := key) hv h2
    refine d_dictSet I h1 (by omega) ry rv fun s' I' => h _ s' I' fun kp => ?_
    rw [p2]
    exact ⟨_, ds', upd_same, p1.kp kp, rfl⟩
  | true =>
    obtain ⟨kks, kv0, es, h1, h0, h2, h3, rfl⟩ := g
    obtain ⟨kk, b, rfl, rfl, hc⟩ := good_n kg hk
    cases (show u = Value.ref b from ry)
    obtain ⟨z, hd, xs, e1, p, dd⟩ := nd_at I (.inl h1) h0 h2
    have l1 : kv0.length = kks.length := by have q := h2.len; rw [List.length_map, List.length_map] at q; exact q
    have l2 : es.length = kks.length := by rw [← h3.len, List.length_map, l1]
    have l3 : kv0.length = xs.length := paired_len p
    rw [List.length_zip, List.length_map] at hl
    refine wpAny_dictSet_heap (hsz := by omega) (show X.A.units + 8 < cLine by omega) (rep_key I hk hc) dd fun h' dd' hs => ?_
    obtain ⟨oo, hoo⟩ : ∃ q, h'.get? a = some q := let ⟨q, _, _, hq, _⟩ := dd'; ⟨q, hq⟩
    unfold storedH at dd'
    by_cases c : kk ∈ kks
    · have ca : (atKey xs kk).isSome = true := by
        rw [← e1] at c
        obtain ⟨x, hx, hxe⟩ := List.mem_map.mp c
        unfold atKey
        rw [Option.isSome_map, List.find?_isSome]
        exact ⟨x, hx, decide_eq_true hxe⟩
      rw [if_pos ca] at dd'
      obtain ⟨ds', p1, p2⟩ := put_n (k := kk) hv l1 h3
      have lz : (nrepl kk v kks kv0).length = kv0.length := by have q := congrArg List.length (nrepl_fst (k := kk) (v := v) l1); rw [List.length_map, List.length_map] at q; exact q
      refine h (NdO X.w a kks (nrepl kk v kks kv0)) _ (d_write I (by rw [h1]; exact True.intro) hs ⟨oo, hoo⟩ (nd_ok (by omega) hd (by rw [keys_map_putAt, e1]) (nrepl_pair rv e1 p) dd')) fun kp => ?_
      refine ⟨kks, nrepl kk v kks kv0, ds', upd_same, h0, ?_, p1.kp kp, ?_⟩
      · rw [nrepl_fst l1]; exact h2.kp kp
      · unfold dput
        rw [nany l2, if_pos (decide_eq_true c)]
        exact p2
    · have ca : ¬ (atKey xs kk).isSome = true := fun z => by
        unfold atKey at z
        rw [Option.isSome_map, List.find?_isSome] at z
        obtain ⟨x, hx, hxe⟩ := z
        exact c (by rw [← e1]; exact List.mem_map.mpr ⟨x, hx, of_decide_eq_true hxe⟩)
      rw [if_neg ca] at dd'
      refine h (NdO X.w a (kks ++ [kk]) (kv0 ++ [(.ref b, v)])) _ (d_write I (by rw [h1]; exact True.intro) hs ⟨oo, hoo⟩ (nd_ok (by rw [List.length_append]; simp; omega) hd (by rw [List.map_append, e1]; rfl) (paired_app p (.cons ⟨rfl, rv⟩ .nil)) dd')) fun kp => ?_
      refine ⟨kks ++ [kk], kv0 ++ [(.ref b, v)], es ++ [e], upd_same, by rw [List.all_append, h0]; simp [hc], ?_, ?_, ?_⟩
      · rw [List.map_append, List.map_append]
        exact (h2.append (.cons hk .nil)).kp kp
      · rw [List.map_append]
        exact (h3.append (.cons hv .nil)).kp kp
      · unfold dput
        rw [nany l2, if_neg (by rw [decide_eq_false c]; decide), List.map_append, List.zip_append (by rw [List.length_map, l2])]
        rfl
end
/-- a dict with nothing in it -/
def e0 (w : World) (n : Bool) (p : Addr) : HO := if n = true then NdO w p [] [] else .dK []
theorem e0_own {K : Fg} {H : Hp} {p : Addr} (n : Bool) : OwnAt K (upd H p (e0 K.w n p)) p (mkO n []) := by
  cases n with
  | false => exact ⟨[], [], upd_same, .nil, rfl⟩
  | true => exact ⟨[], [], [], upd_same, rfl, .nil, .nil, rfl⟩
theorem e0_ok {P : Program} {w : World} {n : Bool} {h : Heap} (hb : sysModules < h.objs.size) {H' : Hp} : ObjOk P w H' (h.push { cls := .type "dict", data := .dict #[] }) h.objs.size (e0 w n h.objs.size) := by
  cases n with
  | false => exact dk_empty h hb
  | true => exact nd_empty P w h hb
section
variable {X : Cx}
/-- {k: v for target in iter if ..}, keys of both kinds; p the new dict -/
def tDg (X : Cx) (n : Bool) (wi : TI) (g : TG) (tt : TT) (tk tv : TE) (vs : List Nat) : TE := fun σ H Q => wi σ H fun J Ha => ∀ p, Ha p = none → ∃ W : Nat → Nat → Hp → Prop, (∃ m, W 0 m (upd Ha p (e0 X.w n p))) ∧ ∀ i m Hb, W i m Hb →
  (J.stop i Hb ∧ Q (.ref p) Hb) ∨ (J.go i Hb ∧ ∃ Nx : Hp → Prop, (∀ Hc, Nx Hc → ∃ m', m' < m ∧ W (i + 1) m' Hc) ∧ ∀ x Hc, J.yld i Hb x Hc → g x (L2.wipe σ vs) Hc fun σ2 Hd => L2.wipe σ2 vs = L2.wipe σ vs ∧ tt σ2 Hd fun b He =>
    if b = true then tk σ2 He fun y Hf => tv σ2 Hf fun z Hg => ∃ kvs k e, OwnAt X.F Hg p (mkO n kvs) ∧ Rep X.F Hg y k ∧ kGood n k = true ∧ Rep X.F Hg z e ∧ kvs.length < sizeLine ∧ ∀ ho, (Kp Hg (upd Hg p ho) → OwnAt X.F (upd Hg p ho) p (mkO n (dput kvs k e))) → Nx (upd Hg p ho) else Nx He)
theorem dg_core {n : Bool} {pins : List (Addr × Obj)} {s : Shared} {σ : St} {H : Hp} {Q : VK} {kx vx tg iter : Expr} {ifs : List Expr} {scope : Scope} {own : List (Str × Nat)} {pos pos' : Pos} {wi : TI} {g : TG} {tt : TT} {tk tv : TE} {use : Option (Value → Sem Unit)} {Qf : Value → Shared → Prop}
    (hu : X.A.units + 64 < cLine) (calm : X.calm = true) (nd : X.N.Nodup) (I : Inv X pins σ H s) (pi : PI X tg iter wi) (blk : BlkOk X.N X.env.scope scope own)
    (qg : ∀ (s : Shared) (H : Hp) (C : Addr) (cl : List (Str × Addr)) (fp : List Addr), PG (X.blk s H scope (compEnvC scope cl C X.env) fp) tg g) (qt : ∀ (s : Shared) (H : Hp) (C : Addr) (cl : List (Str × Addr)) (fp : List Addr), PTs (X.blk s H scope (compEnvC scope cl C X.env) fp) ifs tt)
    (qk : ∀ (s : Shared) (H : Hp) (C : Addr) (cl : List (Str × Addr)) (fp : List Addr), PE (X.blk s H scope (compEnvC scope cl C X.env) fp) kx tk)
    (qv : ∀ (s : Shared) (H : Hp) (C : Addr) (cl : List (Str × Addr)) (fp : List Addr), PE (X.blk s H scope (compEnvC scope cl C X.env) fp) vx tv) (fold : ∀ x, foldedSetIterable iter X.env x = pure x)
    (h : tDg X n wi g tt tk tv (own.map (·.2)) σ H Q)
    (after : ∀ p C s' m H', Inv X pins σ H' s' → Q (.ref p) H' → s'.heap.Ns C m → FpOk X pins H' C → compPost (model X.prog X.w) X.A X.xe use Qf (.ref p) C (.ok .next) s') :
    wpAny (model X.prog X.w) X.A (comprehension (.DictComp kx vx [⟨tg, iter, ifs, 0⟩] scope pos) scope X.env pos' newDict false (eval iter X.env) use) Qf X.xe s := by
  have free : ∀ y ∈ scope.names, y.2 = .free → ∃ c, X.env.cells.lookup y.1 = some c := fun y hy ey => by
    rcases blk.free y hy ey with z | z
    · exact I.ok.has _ (.inl z)
    · exact I.ok.has _ (.inr z)
  refine wpAny_comprehension_free (use := use) rfl fold (closure_ok free) blk.kind (fun y hy ey => by rw [blk.uniq y hy, ey]) (thn (pi.run pins s σ H _ I h) fun v1 t1 w1 => thn w1 fun v2 t2 w2 => ?_)
  obtain ⟨ia, fp, tn, J, Ha, rfl, Ia, T, sa, fa, q⟩ := w2
  refine wpAny_newObj_type (newEnv_comp ?_)
  have pn : Ha t2.heap.objs.size = none := Ia.hok.fresh (Nat.le_refl _)
  obtain ⟨W, ⟨m0, w0⟩, turn⟩ := q _ pn
  generalize hp : t2.heap.objs.size = p at *
  obtain ⟨t3, et3⟩ : ∃ t3 : Shared, t3 = { t2 with heap := t2.heap.push { cls := .type "dict", data := .dict #[] } } := ⟨_, rfl⟩
  have Ib : Inv X pins σ (upd Ha p (e0 X.w n p)) t3 := by
    rw [et3]
    refine Ia.laid (t' := t2.toks) (fun b o z => Heap.get?_push_of_some _ z) (Nat.le_of_eq hp) ?_
    rw [← hp]
    exact e0_ok Ia.big
  have small : ∀ b ∈ fp, b < p := fun b hb => by
    obtain ⟨o, z, _⟩ := T.obj _ _ sa b hb
    rw [← hp]
    exact Heap.lt_size z
  have big3 : t3.heap.objs.size = p + 1 := by rw [et3, Heap.size_push, hp]
  have fb : ∀ b ∈ fp, FpOk X pins (upd Ha p (e0 X.w n p)) b ∧ b < t3.heap.objs.size := fun b hb =>
    ⟨⟨by rw [upd_ne (Nat.ne_of_lt (small b hb))]; exact (fa b hb).1, (fa b hb).2⟩, by rw [big3]; exact Nat.lt_succ_of_lt (small b hb)⟩
  have sb : tn 0 t3.heap := T.keep _ _ _ sa fun b _ o z => by rw [et3]; exact Heap.get?_push_of_some _ z
  have Ic := block_start Ib blk nd fb
  obtain ⟨ce, ece⟩ : ∃ ce, ce = compEnvC scope (cellsFrom (t3.heap.objs.size + 1) scope.names (cloFrom X.env.cells scope.names [])) t3.heap.objs.size X.env := ⟨_, rfl⟩
  have pg := qg t3 (upd Ha p (e0 X.w n p)) t3.heap.objs.size (cellsFrom (t3.heap.objs.size + 1) scope.names (cloFrom X.env.cells scope.names [])) fp
  have pt := qt t3 (upd Ha p (e0 X.w n p)) t3.heap.objs.size (cellsFrom (t3.heap.objs.size + 1) scope.names (cloFrom X.env.cells scope.names [])) fp
  have pk := qk t3 (upd Ha p (e0 X.w n p)) t3.heap.objs.size (cellsFrom (t3.heap.objs.size + 1) scope.names (cloFrom X.env.cells scope.names [])) fp
  have pv := qv t3 (upd Ha p (e0 X.w n p)) t3.heap.objs.size (cellsFrom (t3.heap.objs.size + 1) scope.names (cloFrom X.env.cells scope.names [])) fp
  rw [← et3]
  rw [← ece] at Ic pg pt pk pv
  have cL : ce.locals = t3.heap.objs.size := by rw [ece]; rfl
  have nfp : ∀ b ∈ fp, (upd Ha p (e0 X.w n p)) b = none := fun b hb => (fb b hb).1.1
  obtain ⟨Hx, eHx⟩ : ∃ Hx, Hx = upd Ha p (e0 X.w n p) := ⟨_, rfl⟩
  rw [← eHx] at Ib Ic pg pt pk pv w0 nfp fb
  show codeAny _ _ (.compStart (.DictComp kx vx [⟨tg, iter, ifs, 0⟩] scope pos) 0 (.ref ia) (.ref p) (compEnvC scope (cellsFrom (t3.heap.objs.size + 1) scope.names (cloFrom X.env.cells scope.names [])) t3.heap.objs.size X.env)) _ _
  rw [← ece]
  obtain ⟨t4, et4⟩ : ∃ t4 : Shared, t4 = { t3 with heap := pushCells (t3.heap.push { cls := .type "dict", data := .dict #[] }) scope.names } := ⟨_, rfl⟩
  rw [← et4] at Ic ⊢
  have sc : tn 0 t4.heap := T.keep _ _ _ sb fun b _ o z => by rw [et4]; exact pushCells_keeps _ _ _ _ (Heap.get?_push_of_some _ z)
  have stay : ∀ {σ' : St} {H' : Hp} {s' : Shared}, Inv (X.blk t3 Hx scope ce fp) [] σ' H' s' → (∀ b ∈ fp, H' b = none) → ∀ b ∈ fp, FpOk (X.blk t3 Hx scope ce fp) [] H' b := fun {σ' H' s'} J' hn b hb =>
    ⟨hn b hb, (J'.ok.exf b hb).1, J'.ok.exfs b hb, .inl hb, fun x c z => (J'.ok.exf b hb).2 x c z, fun q hq => absurd (show q ∈ ([] : List (Addr × Obj)) ++ [] from hq) (by simp)⟩
  have loop : codeAny (model X.prog X.w) X.A (.compLoop (.DictComp kx vx [⟨tg, iter, ifs, 0⟩] scope pos) 0 (.ref ia) (.ref p) ce) (compPost (model X.prog X.w) X.A X.xe use Qf (.ref p) t3.heap.objs.size) t4 := by
    refine compLoop_anyD (fun m s' => ∃ i H', Inv (X.blk t3 Hx scope ce fp) [] (L2.wipe σ (own.map (·.2))) H' s' ∧ tn i s'.heap ∧ (∀ b ∈ fp, H' b = none) ∧ W i m H') ?_ m0 ⟨0, Hx, Ic, sc, nfp, w0⟩
    rintro m t5 ⟨i, H5, I5, s5, n5, w5⟩
    rcases turn i m H5 w5 with ⟨stop, qq⟩ | ⟨go, Nx, hNx, step⟩
    · refine thnF (T.done (X.blk t3 Hx scope ce fp) rfl rfl rfl calm i [] t5 _ H5 (fun _ _ => False) I5 (stay I5 n5) s5 stop) fun r t6 ⟨er, I6⟩ => ?_
      subst er
      have I7 : Inv X pins σ H5 t6 := Ib.call' (ch := fp) I6.os I6.base I6.hok I6.bare fun b hb => ⟨(fb b hb).1.2.2.2.1, (fb b hb).1.2.1, (fb b hb).1.2.2.2.2.1, (fb b hb).1.2.2.2.2.2⟩
      have nC : H5 t3.heap.objs.size = none := by
        rw [← cL]
        exact I6.free
      obtain ⟨mm, hn, _⟩ := I6.loc
      have hn : t6.heap.Ns ce.locals mm := hn
      rw [cL] at hn
      exact after p t3.heap.objs.size t6 mm H5 I7 qq hn (Ib.fpOk (Nat.le_refl _) nC)
    · refine thnF (T.item (X.blk t3 Hx scope ce fp) rfl rfl rfl calm i [] t5 _ H5 (fun _ _ => False) I5 (stay I5 n5) s5 go) fun r t6 ⟨u, er, h6⟩ => ?_
      subst er
      refine thnF h6 fun _ t7 ⟨x, H7, I7, r7, y7, s7, n7⟩ => ?_
      refine thnF (pg.run _ t7 _ H7 x u _ (I7.pinned (stay I7 n7) (T.obj _ _ s7)) r7 (step x H7 y7)) fun _ t8 ⟨σ8, H8, I8, hw8, q8⟩ => ?_
      refine thnF (pt.run _ t8 σ8 H8 _ I8 q8) fun b t9 ⟨H9, I9, q9⟩ => ?_
      have last : ∀ {s' : Shared} {H' : Hp}, Inv (X.blk t3 Hx scope ce fp) ([] ++ pinsAt fp t7.heap) σ8 H' s' → Nx H' → ∃ m1, m1 < m ∧ ∃ i H', Inv (X.blk t3 Hx scope ce fp) [] (L2.wipe σ (own.map (·.2))) H' s' ∧ tn i s'.heap ∧ (∀ b ∈ fp, H' b = none) ∧ W i m1 H' := fun {s' H'} J' nx => by
        obtain ⟨m1, hm, w'⟩ := hNx H' nx
        have pin' : ∀ b ∈ fp, ∀ o, t7.heap.get? b = some o → s'.heap.get? b = some o ∧ H' b = none := fun b hb o z =>
          let k := J'.pin (b, o) (List.mem_append_right _ (List.mem_append_right _ (mem_pinsAt hb z)))
          ⟨k.1, k.2.1⟩
        refine ⟨m1, hm, i + 1, H', (J'.unpinned (pins := [])).weak (by rw [← hw8, wipe_length]) (fun j v z => by rw [← hw8] at z; exact (wipe_some z).1), T.keep _ _ _ s7 fun b hb o z => (pin' b hb o z).1, fun b hb => ?_, w'⟩
        obtain ⟨o, z, _⟩ := T.obj _ _ s7 b hb
        exact (pin' b hb o z).2
      cases b with
      | false =>
        simp only [Bool.false_eq_true, if_false] at q9 ⊢
        exact last I9 q9
      | true =>
        simp only [if_true] at q9 ⊢
        refine thnF (pk.run _ t9 σ8 H9 _ I9 q9) fun z t10 ⟨yk, H10, I10, r10, q10⟩ => ?_
        refine thnF (pv.run _ t10 σ8 H10 _ I10 q10) fun z2 t11 ⟨yv, H11, I11, r11, kvs, k, e, ow, rk, kg, re, hl, nx⟩ => ?_
        exact da_put (X := X.blk t3 Hx scope ce fp) hu I11 ow rk kg r10 r11 re hl fun ho t12 I12 z => last I12 (nx ho z)
  exact codeAny_compStart_dict loop (T.self X.A 0 _ _ _ sc loop)
theorem pe_dg {n : Bool} {kx vx tg iter : Expr} {ifs : List Expr} {scope : Scope} {own : List (Str × Nat)} {pos : Pos} {wi : TI} {g : TG} {tt : TT} {tk tv : TE} (hu : X.A.units + 64 < cLine) (calm : X.calm = true) (nd : X.N.Nodup) (pi : PI X tg iter wi) (blk : BlkOk X.N X.env.scope scope own)
    (qg : ∀ (s : Shared) (H : Hp) (C : Addr) (cl : List (Str × Addr)) (fp : List Addr), PG (X.blk s H scope (compEnvC scope cl C X.env) fp) tg g) (qt : ∀ (s : Shared) (H : Hp) (C : Addr) (cl : List (Str × Addr)) (fp : List Addr), PTs (X.blk s H scope (compEnvC scope cl C X.env) fp) ifs tt)
    (qk : ∀ (s : Shared) (H : Hp) (C : Addr) (cl : List (Str × Addr)) (fp : List Addr), PE (X.blk s H scope (compEnvC scope cl C X.env) fp) kx tk)
    (qv : ∀ (s : Shared) (H : Hp) (C : Addr) (cl : List (Str × Addr)) (fp : List Addr), PE (X.blk s H scope (compEnvC scope cl C X.env) fp) vx tv) (fold : ∀ x, foldedSetIterable iter X.env x = pure x) :
    PE X (.DictComp kx vx [⟨tg, iter, ifs, 0⟩] scope pos) (tDg X n wi g tt tk tv (own.map (·.2))) := by
  refine ⟨fun pins s σ H Q I h => ?_⟩
  rw [arm_eval_DictComp]
  refine dg_core hu calm nd I pi blk qg qt qk qv fold h fun p C s' m H' J q hn f => ⟨m, hn, fun h'' same => ?_⟩
  obtain ⟨z0, z1, z2, z3, z4, z5⟩ := f
  exact ⟨.ref p, H', J.turned (t' := s'.toks) (fun b o hb z => (same.2 b hb).trans z) z0 z1 z3 z4 z5, rfl, q⟩
theorem ps_setDg {n : Bool} {i : Nat} {y : Str} {py spos : Pos} {kx vx tg iter : Expr} {ifs : List Expr} {scope : Scope} {own : List (Str × Nat)} {pos : Pos} {wi : TI} {g : TG} {tt : TT} {tk tv : TE} (hu : X.A.units + 64 < cLine) (calm : X.calm = true) (nd : X.N.Nodup) (hy : X.N[i]? = some y) (hyl : X.env.scope.names.lookup y = some .local)
    (hsw : swapsWith (.DictComp kx vx [⟨tg, iter, ifs, 0⟩] scope pos) (some (.Name y py)) spos.line X.env = pure true) (pi : PI X tg iter wi) (blk : BlkOk X.N X.env.scope scope own)
    (qg : ∀ (s : Shared) (H : Hp) (C : Addr) (cl : List (Str × Addr)) (fp : List Addr), PG (X.blk s H scope (compEnvC scope cl C X.env) fp) tg g) (qt : ∀ (s : Shared) (H : Hp) (C : Addr) (cl : List (Str × Addr)) (fp : List Addr), PTs (X.blk s H scope (compEnvC scope cl C X.env) fp) ifs tt)
    (qk : ∀ (s : Shared) (H : Hp) (C : Addr) (cl : List (Str × Addr)) (fp : List Addr), PE (X.blk s H scope (compEnvC scope cl C X.env) fp) kx tk)
    (qv : ∀ (s : Shared) (H : Hp) (C : Addr) (cl : List (Str × Addr)) (fp : List Addr), PE (X.blk s H scope (compEnvC scope cl C X.env) fp) vx tv) (fold : ∀ x, foldedSetIterable iter X.env x = pure x) :
    PS X (.Assign [.Name y py] (.DictComp kx vx [⟨tg, iter, ifs, 0⟩] scope pos) spos) (tAsg (tDg X n wi g tt tk tv (own.map (·.2))) (gName i)) := by
  refine ⟨fun pins s σ H E I h => ?_⟩
  rw [exec_Assign_Name_used _ _ _ _ hsw]
  refine wpAny_bind (wpAny_standAt (wpAny_bind ?_))
  show wpAny _ X.A (do let _ ← comprehension (.DictComp kx vx [⟨tg, iter, ifs, 0⟩] scope pos) scope X.env (firstIterPos [⟨tg, iter, ifs, 0⟩] pos) newDict false (eval iter X.env) (some (assign (.Name y py) X.env))) _ _ s
  have h : tDg X n wi g tt tk tv (own.map (·.2)) σ H (fun x H1 => gName i x σ H1 E.nx) := h
  refine wpAny_bind (thn (dg_core (Qf := fun _ s' => SP X pins E .next s') hu calm nd I pi blk qg qt qk qv fold h fun p C s' m H' J q hn f => ?_) fun _ s' hq => wpAny_pure (wpAny_pure hq))
  show wpAny _ _ (assign (.Name y py) X.env (.ref p)) _ _ _
  refine wpAny_assign_Name (store_ok2 (v := V.ref p) J nd hy (.inl hyl) rfl (fun s2 J2 ⟨a, sb, ha⟩ => ?_) (.inr hyl))
  obtain ⟨z0, z1, z2, z3, z4, z5⟩ := f
  have ne : C ≠ a := by
    rcases ha with z | z
    · rw [z]; exact z1
    · exact fun k => z4 y a z k.symm
  exact ⟨m, hn.sameBut sb ne, fun h3 sb3 => ⟨_, H', J2.turned (t' := s2.toks) (fun b o hb k => (sb3.2 b hb).trans k) z0 z1 z3 z4 z5, q⟩⟩
end
/-! the reading -/
def turnK (vs : List Nat) (g : GF) (t : FB) (fk fv : FE) (d : D) (ss : SS) : Option (Option (D × D) × SS) :=
  match g d (lend ss) with
  | none => none
  | some s1 => match t s1 with
    | .no => none
    | .ok false s2 => some (none, unlend ss (wipeS s2 vs))
    | .ok true s2 => match fk s2 with
      | .no => none
      | .ok k s3 => match fv s3 with
        | .no => none
        | .ok x s4 => some (some (k, x), unlend ss (wipeS s4 vs))
def compK (n : Bool) (vs : List Nat) (g : GF) (t : FB) (fk fv : FE) : List D → SS → List (D × D) → Option (List (D × D) × SS)
  | [], ss, acc => some (acc, ss)
  | d :: r, ss, acc => match turnK vs g t fk fv d ss with
    | none => none
    | some (none, s1) => compK n vs g t fk fv r s1 acc
    | some (some (k, x), s1) => if kGood n k = true ∧ acc.length < sizeLine then compK n vs g t fk fv r s1 (dput acc k x) else none
def nDc (n : Bool) (vs : List Nat) (src : FL) (g : GF) (t : FB) (fk fv : FE) : FN := fun ss => (src ss).bind fun ds s1 =>
  match compK n vs g t fk fv ds (wipeS s1 vs) [] with
    | some (kvs, s2) => .ok (mkO n kvs) (backS vs s1 s2)
    | none => .no
theorem loopK_read {n : Bool} {vs : List Nat} {gg : GF} {t : FB} {fk fv : FE} {σ : St} {H1 : Hp} {K : Fg} {fx : Fx} {sI sE : SS} {ds : List D} {acc0 out : List (D × D)} {p : Addr} {J : It} {R : Hp → Prop} (w : Walk K J ds H1) (fw : FR K fx sI (L2.wipe σ vs) H1) (nw : NewAt fx sI (L2.wipe σ vs) p)
    (own : OwnAt K H1 p (mkO n acc0)) (hcomp : compK n vs gg t fk fv ds sI acc0 = some (out, sE))
    (hR : ∀ H2, Kp H1 H2 → FR K fx sE (L2.wipe σ vs) H2 → (∀ (j : Nat) (s : Sl) (o : O), sE[j]? = some s → s.obj = some o → ∃ t u, sI[j]? = some t ∧ t.obj = some u) → OwnAt K H2 p (mkO n out) → R H2) :
    ∃ W : Nat → Nat → Hp → Prop, (∃ m, W 0 m H1) ∧ ∀ i m H, W i m H → (J.stop i H ∧ R H) ∨ (J.go i H ∧ ∃ Nx : Hp → Prop, (∀ H', Nx H' → ∃ m', m' < m ∧ W (i + 1) m' H') ∧ ∀ x H', J.yld i H x H' → gD K gg vs x (L2.wipe σ vs) H' fun σ2 H2 => L2.wipe σ2 vs = L2.wipe σ vs ∧ tT K t σ2 H2 fun b H3 =>
      if b = true then tD K fk σ2 H3 fun y H4 => tD K fv σ2 H4 fun z H5 => ∃ kvs k e, OwnAt K H5 p (mkO n kvs) ∧ Rep K H5 y k ∧ kGood n k = true ∧ Rep K H5 z e ∧ kvs.length < sizeLine ∧ ∀ ho, (Kp H5 (upd H5 p ho) → OwnAt K (upd H5 p ho) p (mkO n (dput kvs k e))) → Nx (upd H5 p ho) else Nx H3) := by
  refine ⟨fun i m H2 => m = ds.length - i ∧ i ≤ ds.length ∧ Kp H1 H2 ∧ ∃ ssi acc, FR K fx ssi (L2.wipe σ vs) H2 ∧ (∀ (j : Nat) (s : Sl) (o : O), ssi[j]? = some s → s.obj = some o → ∃ t u, sI[j]? = some t ∧ t.obj = some u) ∧
      OwnAt K H2 p (mkO n acc) ∧ compK n vs gg t fk fv (ds.drop i) ssi acc = some (out, sE),
    ⟨ds.length, by omega, Nat.zero_le _, Kp.refl _, sI, acc0, fw, fun j s o a b => ⟨s, o, a, b⟩, own, hcomp⟩, fun i m H2 ⟨em, hle, k2, ssi, acc, f2, old, ow, hc2⟩ => ?_⟩
  have nr : ∀ (j : Nat) (s : Sl) (o : O), ssi[j]? = some s → s.obj = some o → (L2.wipe σ vs)[j]? ≠ some (some (.ref p)) := fun j s o a b => by
    obtain ⟨t', u, c, d⟩ := old j s o a b
    exact nw.2 j t' u c d
  have wi := w i H2 k2
  by_cases hlt : i < ds.length
  · have ed : ds.drop i = ds[i] :: ds.drop (i + 1) := List.drop_eq_getElem_cons hlt
    rw [ed] at hc2
    unfold compK at hc2
    obtain ⟨go, yl⟩ := wi.1 ds[i] (List.getElem?_eq_getElem hlt)
    refine .inr ⟨go, fun H5 => Kp H1 H5 ∧ ∃ ssi acc, FR K fx ssi (L2.wipe σ vs) H5 ∧ (∀ (j : Nat) (s : Sl) (o : O), ssi[j]? = some s → s.obj = some o → ∃ t u, sI[j]? = some t ∧ t.obj = some u) ∧
      OwnAt K H5 p (mkO n acc) ∧ compK n vs gg t fk fv (ds.drop (i + 1)) ssi acc = some (out, sE), fun H5 ⟨a, b⟩ => ⟨ds.length - (i + 1), by omega, rfl, hlt, a, b⟩, fun x H3 hy => ?_⟩
    obtain ⟨sm, rp⟩ := yl x H3 hy
    have f3 := f2.same sm
    have fl3 := f3.lend
    have ow3 : OwnAt K H3 p (mkO n acc) := OwnAt.same sm ow
    have keepP : ∀ (s : SS) (τ : St) (H4 : Hp), Kp H3 H4 → FR K (fxr ssi (L2.wipe σ vs) H3) s τ H4 → OwnAt K H4 p (mkO n acc) := fun s τ H4 k4 g => by
      obtain ⟨u, hu, _⟩ := OwnAt.loose ow3
      refine OwnAt.kp k4 ?_ ow3
      rw [hu]
      exact g.rest p u hu fun j z => by
        obtain ⟨s', o', a, b, c⟩ := fxr_some z
        exact nr j s' o' a b c
    have old2 : ∀ (s2 : SS) (j : Nat) (s : Sl) (o : O), (unlend ssi s2)[j]? = some s → s.obj = some o → ∃ t u, sI[j]? = some t ∧ t.obj = some u := fun s2 j s o a b => by
      obtain ⟨t', u, c, d⟩ := unlend_old a b
      exact old j t' u c d
    unfold turnK at hc2
    cases eg : gg ds[i] (lend ssi) with
    | none => rw [eg] at hc2; cases hc2
    | some s4 =>
      rw [eg] at hc2
      simp only at hc2
      refine ⟨_, lend ssi, ds[i], s4, fl3, rp, eg, fun σ2 H4 wq0 k4 f4 => ?_⟩
      have wq := wq0.trans wipe_wipe
      refine ⟨wq, ?_⟩
      cases et : t s4 with
      | no => rw [et] at hc2; cases hc2
      | ok b s5 =>
        rw [et] at hc2
        refine ⟨_, s4, b, s5, f4, et, fun H5 k5 f5 => ?_⟩
        have kk : Kp H2 H5 := (Kp.same sm).trans (k4.trans k5)
        cases b with
        | false =>
          simp only at hc2
          refine iteF ⟨k2.trans kk, _, acc, ?_, old2 _, keepP _ _ _ (k4.trans k5) f5, hc2⟩
          have g5 := f5.wipe vs
          rw [wq] at g5
          exact f3.unlend g5 (k4.trans k5)
        | true =>
          simp only at hc2
          cases ee : fk s5 with
          | no => rw [ee] at hc2; cases hc2
          | ok y s6 =>
            rw [ee] at hc2
            simp only at hc2
            cases ev : fv s6 with
            | no => rw [ev] at hc2; cases hc2
            | ok z s7 =>
              rw [ev] at hc2
              simp only at hc2
              split at hc2
              rotate_left
              · cases hc2
              rename_i hg
              refine iteT ⟨_, s5, y, s6, f5, ee, fun v H6 k6 f6 r6 => ⟨_, s6, z, s7, f6, ev, fun v2 H7 k7 f7 r7 => ?_⟩⟩
              have k37 : Kp H3 H7 := ((k4.trans k5).trans k6).trans k7
              have ow7 := keepP _ _ _ k37 f7
              have g7 := f7.wipe vs
              rw [wq] at g7
              have f8 := f3.unlend g7 k37
              have kall : Kp H2 H7 := (Kp.same sm).trans k37
              refine ⟨acc, y, z, ow7, r6.kp k7, hg.1, r7, hg.2, fun ho hown => ?_⟩
              obtain ⟨u, hu, lu, _⟩ := OwnAt.loose ow7
              have k78 : Kp H7 (upd H7 p ho) := Kp.upd hu lu
              refine ⟨(k2.trans kall).trans k78, _, dput acc y z, f8.lock ⟨nw.1, fun j s o a b => ?_⟩ hu lu, old2 _, hown k78, hc2⟩
              obtain ⟨t', u, c, d⟩ := unlend_old a b
              exact nr j t' u c d
  · have ed : ds.drop i = [] := List.drop_eq_nil_of_le (by omega)
    rw [ed] at hc2
    unfold compK at hc2
    cases hc2
    exact .inl ⟨wi.2 (by omega), hR H2 k2 f2 old ow⟩
section
variable {X : Cx}
theorem dc_read {n : Bool} {vs : List Nat} {fl : FL} {gg : GF} {t : FB} {fk fv : FE} {σ : St} {H : Hp} {Q : VK} (q : tN X.F (nDc n vs fl gg t fk fv) σ H Q) : tDg X n (iD X.F fl) (gD X.F gg vs) (tT X.F t) (tD X.F fk) (tD X.F fv) vs σ H Q := by
  obtain ⟨fx, ss, o, s3, f, eq, k⟩ := q
  obtain ⟨ds, s1, e1, eq⟩ := bind_ok eq
  split at eq
  rotate_left
  · cases eq
  rename_i out sE hcomp
  cases eq
  refine ⟨fx, ss, ds, s1, f, e1, fun J H1 k1 f1 w p hp => ?_⟩
  have fw : FR X.F fx (wipeS s1 vs) (L2.wipe σ vs) H1 := f1.wipe vs
  have nw : NewAt fx (wipeS s1 vs) (L2.wipe σ vs) p := fw.newAt hp
  have k1' : Kp H1 (upd H1 p (e0 X.w n p)) := .same (same_new hp)
  refine loopK_read (R := fun H2 => Q (.ref p) H2) (fun i H' kk => w i H' (k1'.trans kk)) (fw.new hp) nw (e0_own (K := X.F) n) hcomp fun H2 k2 f2 old ow => ?_
  have kk := k1'.trans k2
  exact k p H2 (k1.trans kk) (f1.back kk f2) ow (back_new nw.1 fun j s o a b => by
    obtain ⟨t', u, c, d⟩ := old j s o a b
    exact nw.2 j t' u c d)
variable {kx vx tg iter : Expr} {ifs : List Expr} {scope : Scope} {pos : Pos} {fl : FL} {gg : GF} {t : FB} {fk fv : FE}
theorem xdc (n : Bool) (own : List (Str × Nat)) (hu : X.A.units + 64 < cLine) (nd : X.N.Nodup) (hi : PI X tg iter (iD X.F fl)) (ok : blkC X.N X.env.scope scope own = true)
    (hg : ∀ (s : Shared) (H : Hp) (C : Addr) (cl : List (Str × Addr)) (fp : List Addr), PG (X.blk s H scope (compEnvC scope cl C X.env) fp) tg (gD X.F gg (own.map (·.2)))) (ht : ∀ (s : Shared) (H : Hp) (C : Addr) (cl : List (Str × Addr)) (fp : List Addr), PTs (X.blk s H scope (compEnvC scope cl C X.env) fp) ifs (tT X.F t))
    (hk : ∀ (s : Shared) (H : Hp) (C : Addr) (cl : List (Str × Addr)) (fp : List Addr), PE (X.blk s H scope (compEnvC scope cl C X.env) fp) kx (tD X.F fk))
    (hv : ∀ (s : Shared) (H : Hp) (C : Addr) (cl : List (Str × Addr)) (fp : List Addr), PE (X.blk s H scope (compEnvC scope cl C X.env) fp) vx (tD X.F fv)) (hc : X.calm = true := by rfl) (hs : ∀ x, foldedSetIterable iter X.env x = pure x := by intro _; rfl) :
    PE X (.DictComp kx vx [⟨tg, iter, ifs, 0⟩] scope pos) (tN X.F (nDc n (own.map (·.2)) fl gg t fk fv)) :=
  (pe_dg hu hc nd hi (blkOk_by ok) hg ht hk hv hs).imp fun σ H Q q => dc_read q
theorem xsetDc (n : Bool) (i : Nat) {y : Str} {py spos : Pos} (own : List (Str × Nat)) (hu : X.A.units + 64 < cLine) (nd : X.N.Nodup) (hi : PI X tg iter (iD X.F fl)) (ok : blkC X.N X.env.scope scope own = true)
    (hg : ∀ (s : Shared) (H : Hp) (C : Addr) (cl : List (Str × Addr)) (fp : List Addr), PG (X.blk s H scope (compEnvC scope cl C X.env) fp) tg (gD X.F gg (own.map (·.2)))) (ht : ∀ (s : Shared) (H : Hp) (C : Addr) (cl : List (Str × Addr)) (fp : List Addr), PTs (X.blk s H scope (compEnvC scope cl C X.env) fp) ifs (tT X.F t))
    (hk : ∀ (s : Shared) (H : Hp) (C : Addr) (cl : List (Str × Addr)) (fp : List Addr), PE (X.blk s H scope (compEnvC scope cl C X.env) fp) kx (tD X.F fk))
    (hv : ∀ (s : Shared) (H : Hp) (C : Addr) (cl : List (Str × Addr)) (fp : List Addr), PE (X.blk s H scope (compEnvC scope cl C X.env) fp) vx (tD X.F fv))
    (hsw : swapsWith (.DictComp kx vx [⟨tg, iter, ifs, 0⟩] scope pos) (some (.Name y py)) spos.line X.env = pure true) (hy : X.N[i]? = some y := by rfl) (hyl : X.env.scope.names.lookup y = some .local := by rfl) (hc : X.calm = true := by rfl) (hs : ∀ x, foldedSetIterable iter X.env x = pure x := by intro _; rfl) :
    PS X (.Assign [.Name y py] (.DictComp kx vx [⟨tg, iter, ifs, 0⟩] scope pos) spos) (tAsg (tN X.F (nDc n (own.map (·.2)) fl gg t fk fv)) (gName i)) :=
  (ps_setDg hu hc nd hy hyl hsw hi (blkOk_by ok) hg ht hk hv hs).imp fun E σ H q => dc_read q
end
section
variable {X : Cx}
/-- x, y = {}, {} -/
def tE0 (X : Cx) (n : Bool) : TE := fun _ H Q => ∀ p, H p = none → Q (.ref p) (upd H p (e0 X.w n p))
theorem pe_e0 (n : Bool) {pos : Pos} : PE X (.Dict [] [] pos) (tE0 X n) := ⟨fun pins s σ H Q I h =>
  wpAny_Dict_empty ⟨.ref s.heap.objs.size, _, I.laid (a := s.heap.objs.size) (t' := s.toks) (fun _ _ q => Heap.get?_push_of_some _ q) (Nat.le_refl _) (e0_ok (n := n) I.big), rfl, h _ (I.hok.fresh (Nat.le_refl _))⟩⟩
def sPar2E (i j : Nat) (n1 n2 : Bool) : FS := fun ss => if i < ss.length ∧ j < ss.length then .nx ((ss.set i (.own (mkO n1 []))).set j (.own (mkO n2 []))) else .no
theorem spar2E {i j : Nat} {n1 n2 : Bool} {st : Stmt} (h : PS X st (tPar i j (tCons (tE0 X n1) (tCons (tE0 X n2) tNil)))) : PS X st (tS X.F (sPar2E i j n1 n2)) := by
  refine h.imp fun E σ H q => ?_
  obtain ⟨fx, ss, fr, k⟩ := tS_iff.mp q
  unfold sPar2E at k
  split at k
  rotate_left
  · exact k.elim
  rename_i hl
  intro p hp q hq
  have f1 := (fr.new (o := e0 X.w n1 p) hp).own (i := i) hl.1 (e0_own (K := X.F) n1) ((fr.newAt hp))
  have f2 := (f1.new (o := e0 X.w n2 q) hq).own (i := j) (by rw [List.length_set]; exact hl.2) (e0_own (K := X.F) n2) (f1.newAt hq)
  exact ⟨_, _, rfl, k _ _ ((Kp.same (same_new hp)).trans (.same (same_new hq))) f2⟩
end
end Dt

/-! Dt19: head, *rest = a tuple. -/
namespace Dt
open PySem PySem.Spec L2
open PyProof.Rows hiding St
theorem walks_shift {prog : Program} {w : World} {A : Around} {I : Addr} {fp wr : List Addr} {n k : Nat} {P : Nat → Value → Prop} {St : Nat → Heap → Prop} (W : Walks prog w A I fp wr n P St) (hk : k ≤ n) : Walks prog w A I fp wr (n - k) (fun i v => P (i + k) v) (fun i h => St (i + k) h) where
  sub := W.sub
  frame := fun i => W.frame (i + k)
  item := fun i s Q E hi st hQ => W.item (i + k) s Q E (by omega) st fun v h' tk p st' hb => hQ v h' tk p (by rw [Nat.add_right_comm]; exact st') hb
  done := fun s Q E st hQ => W.done s Q E (by rw [Nat.sub_add_cancel hk] at st; exact st) hQ
  self := fun i s Q E st hQ => W.self (i + k) s Q E st hQ
section
variable {prog : Program} {w : World} {A : Around} {E : Value → Shared → Prop} {s : Shared}
theorem collect_rest {it t : Addr} {u : Value} {us : List Value} {Q : List Value → Shared → Prop} (hh : A.handled = none) (hi : IsTupIter s.heap it t 1) (ht : IsTup s.heap t (u :: us).toArray) (hz : us.length ≤ sizeLine)
    (hQ : ∀ h' t', (∀ b o, b ≠ it → s.heap.get? b = some o → h'.get? b = some o) → Q us { s with heap := h', toks := t' }) : wpAny (model prog w) A (collect (.ref it)) Q E s := by
  have hne : t ≠ it := by
    rintro rfl
    obtain ⟨o, h1, h2, _⟩ := hi
    obtain ⟨o', g1, g2, _⟩ := ht
    rw [h1] at g1
    cases g1
    rw [h2] at g2
    exact absurd g2 (by decide)
  have W := (walks_shift (k := 1) (Walks.tuple (prog := prog) (w := w) (A := A.in1) hh it t hne (u :: us).toArray) (by simp)).toS
  have hsz : (u :: us).toArray.size - 1 = us.length := by simp
  refine wpAny_collect_iter (T := "tuple_iterator") (.inr (.inr (.inr rfl))) W (fun i s st => let ⟨o, h1, h2, _⟩ := st.1; ⟨o, h1, h2⟩) ⟨hi, ht⟩ (fun b hb => ?_) (by simp) (fun s' acc mv io => ?_) (by rw [hsz]; exact hz)
  · simp only [List.mem_cons, List.not_mem_nil, or_false] at hb
    rcases hb with rfl | rfl
    · obtain ⟨o, h1, _⟩ := hi; exact Heap.lt_size h1
    · obtain ⟨o, h1, _⟩ := ht; exact Heap.lt_size h1
  · have e : acc.toList = us := by
      apply List.ext_getElem?
      intro j
      rw [hsz] at io
      by_cases hj : j < acc.size
      · have h1 : acc[j]? = some acc[j] := Array.getElem?_eq_getElem hj
        have h2 := io.2 j _ h1
        have h3 : (u :: us)[j + 1]? = some acc[j] := by simpa using h2
        rw [List.getElem?_cons_succ] at h3
        rw [h3, Array.getElem?_toList, h1]
      · have h1 : us.length ≤ j := by have := io.1; omega
        rw [List.getElem?_eq_none h1, List.getElem?_eq_none (by rw [Array.length_toList]; omega)]
    rw [e]
    obtain ⟨h', g', d', t', o'⟩ := s'
    obtain ⟨m1, m2, m3, m4, m5⟩ := mv
    simp only at m2 m3 m4
    subst m2 m3 m4
    exact hQ h' t' fun b o hb => m1 b o (by simpa using hb)
theorem unpack_star {t : Addr} {u : Value} {us : List Value} {Q : List Value → Shared → Prop} (hh : A.handled = none) (ht : IsTup s.heap t (u :: us).toArray) (hz : us.length ≤ sizeLine)
    (hQ : ∀ (h' : Heap) (t' : Nat), (∀ b o, s.heap.get? b = some o → h'.get? b = some o) → Q [u, .ref h'.objs.size] { s with heap := h'.push { cls := .type "list", data := .seq us.toArray }, toks := t' }) : wpAny (model prog w) A (unpackItems (.ref t) 2 (some 1)) Q E s := by
  have hlt : t ≠ s.heap.objs.size := by obtain ⟨o, ho, _⟩ := ht; exact Nat.ne_of_lt (Heap.lt_size ho)
  unfold unpackItems
  refine wpAny_bind ?_
  unfold notIterableAtAll
  refine wpAny_bind (wpAny_specialOf ht.typeIs slot_tuple_iter.lookup ?_)
  refine wpAny_pure ?_
  simp only [Bool.false_eq_true, if_false]
  refine wpAny_bind (wpAny_holding (iter_tuple ht ?_))
  refine wpAny_bind (wpAny_holding (draw_tuple hlt 1 0 _ _ ⟨_, Heap.get?_push_size _ rfl, rfl, rfl⟩ (ht.push _) (by simp) fun h₁ hit₁ hs₁ => ?_))
  have ht₁ : IsTup h₁ t (u :: us).toArray := (ht.push _).extBut hs₁.extBut hlt
  show wpAny _ _ (if ([u] : List Value).length < 1 then _ else _) _ _ _
  rw [if_neg (show ¬ ([u] : List Value).length < 1 from Nat.lt_irrefl 1)]
  refine wpAny_bind (wpAny_holding (collect_rest hh hit₁ ht₁ hz fun h₂ t₂ hk => ?_))
  simp only
  have e1 : ¬ us.length < 2 - 1 - 1 := by omega
  rw [if_neg e1]
  refine wpAny_bind (wpAny_newObj_type ?_ ?_)
  · refine wpAny_pure ?_
    have e2 : us.length - (2 - 1 - 1) = us.length := by omega
    have e3 : List.take 1 (List.drop 0 (u :: us)) ++ [Value.ref h₂.objs.size] ++ List.drop (us.length - (2 - 1 - 1)) us = [u, .ref h₂.objs.size] := by
      rw [e2, List.drop_length]
      rfl
    show Q (List.take 1 (List.drop 0 (u :: us)) ++ [Value.ref h₂.objs.size] ++ List.drop (us.length - (2 - 1 - 1)) us) { s with heap := h₂.push { cls := .type "list", data := .seq (List.take (us.length - (2 - 1 - 1)) us).toArray }, toks := t₂ }
    rw [e3, e2, List.take_length]
    refine hQ h₂ t₂ fun b o hb => ?_
    have hb1 : b ≠ s.heap.objs.size := Nat.ne_of_lt (Heap.lt_size hb)
    exact hk b o hb1 (hs₁.extBut b o hb1 (Heap.get?_push_of_some _ hb))
  · show (List.take (us.length - (2 - 1 - 1)) us).toArray.size ≤ sizeLine
    rw [List.size_toArray, List.length_take]
    omega
end
section
variable {X : Cx}
/-- (a, *b) = a tuple -/
def gStar (g : List D → SS → Option SS) : GF := fun d ss => match d with
  | .tuple (d0 :: ds) => g [d0, .list ds] ss
  | _ => none
theorem gst {es es' : List Expr} {k : Nat} {pos : Pos} {ws : List Nat} {g : List D → SS → Option SS} (hc : X.calm = true) (h : PGs X es' (gsD X.F g ws)) (he : (assignEach es X.env).map (·.2) = (assignEach es' X.env).map (·.2) := by rfl) (hn : (assignEach es X.env).length = 2 := by rfl) (hst : (assignEach es X.env).findIdx? (·.1) = some 1 := by rfl) :
    PG X (.Tuple es k pos) (gD X.F (gStar g) ws) := by
  refine ⟨fun pins s σ H v u Q I r q => ?_⟩
  obtain ⟨fx, ss, d, ss', fr, rp, e, kk⟩ := q
  unfold gStar at e
  split at e
  rotate_left
  · cases e
  rename_i d0 ds
  obtain ⟨a, xs, rfl, h1, r1⟩ := rp.tupv
  cases r
  cases r1
  rename_i v0 vs r0 r1
  obtain ⟨its, rv, ht, hz⟩ := I.tuple h1
  cases rv
  rename_i u0 us rv0 rv1
  have hl := rv1.length
  rw [List.length_cons] at hz
  show wpAny _ _ (do standAt pos; unpack (.ref a) (assignEach es X.env)) _ _ s
  refine wpAny_bind (wpAny_standAt ?_)
  unfold unpack
  rw [hn, hst, he]
  refine wpAny_bind (wpAny_holding (unpack_star (I.ok.hd hc) ht (by omega) fun h' t' hk => ?_))
  have Ia : Inv X pins σ H { s with heap := h', toks := t' } := I.kept hk
  have Ib : Inv X pins σ (upd H h'.objs.size (.lst vs)) { s with heap := h'.push { cls := .type "list", data := .seq us.toArray }, toks := t' } := by
    exact Ia.lnew (t' := t') rv1 (by omega)
  have fa := fr.new (o := .lst vs) (Ia.hok.fresh (Nat.le_refl _))
  have na := fr.newAt (Ia.hok.fresh (Nat.le_refl _))
  obtain ⟨od, Ic⟩ := Ib.lock upd_same trivial
  have k1 : Kp H (upd H h'.objs.size (.lst vs)) := .same (same_new (Ia.hok.fresh (Nat.le_refl _)))
  have k2 := Kp.upd (u := .frz od (.lst vs)) (upd_same (H := H) (a := h'.objs.size) (o := .lst vs)) loose_lst
  have fb := fa.lock na upd_same loose_lst (o := .frz od (.lst vs))
  have rl : Rep X.F (upd (upd H h'.objs.size (.lst vs)) h'.objs.size (.frz od (.lst vs))) (.ref h'.objs.size) (.list ds) := .lst (.inl ⟨od, upd_same⟩) (r1.kp (k1.trans k2))
  exact h.run pins _ σ _ [v0, .ref h'.objs.size] [u0, .ref h'.objs.size] Q Ic (.cons rv0 (.cons rfl .nil)) ⟨fx, ss, [d0, .list ds], ss', fb, .cons (r0.kp (k1.trans k2)) (.cons rl .nil), e, fun σ2 H2 hw k3 f2 => kk σ2 H2 hw ((k1.trans k2).trans k3) f2⟩
end
end Dt

/-! Dt23: a call that looks at an object of one's own, and leaves it as it is. -/
namespace Dt
open PySem PySem.Spec L2
open PyProof.Rows hiding St
section
variable {X : Cx} {CX : CXT} {k : Nat} {f : Addr} {fd : FuncData} {ps : List Str} {ds : List Value} {dvs : List V} {sp : Sp} {x : Str} {e : Expr} {es : List Expr} {p pos : Pos} {t : TA} {E : XK}
def tCallL (sp : Sp) (dvs : List V) (E : XK) (t : TA) : TE := fun σ H Q => t σ H fun vs H1 => ∃ d u, H1 d = some u ∧ Mut (some u) ∧ ∀ od, sp (vs ++ dvs) (upd H1 d (.frz od u)) (fun v H' => H' d = some (.frz od u) ∧ Q v (upd H' d u)) E
theorem pe_callL (F : FnOk X.prog X.w X.K X.mg X.base CX k f fd ps sp) (hr : Room k X.A) (hg : Gl X x) (hm : X.mg x = some (.ref f)) (hk : PySem.W.keepIn X.K (.ref f) = true) (hb : Binds X.K fd ps ds) (hd : Vals dvs ds) (hx : Passes CX X E)
    (ha : PA X (e :: es) t) (hdb : (x == ("__debug__" : Str)) = false := by decide) (he : starEach (e :: es) X.env = (false, eval e X.env) :: starEach es X.env := by rfl) (hpl : (backTo pos (starEach es X.env)).any (·.1) = false := by rfl) :
    PE X (.Call (.Name x p) (e :: es) [] pos) (tCallL sp dvs E t) := by
  refine ⟨fun pins s σ H Q I h => wpAny_Call_Name_kw (ld_glob I hg hm ?_ hdb)⟩
  refine PySem.W.callWith_K (h₀ := X.base) I.ok.mod.kin hk (thn (ha.run pos pins s σ H _ I h) fun us s1 ⟨vs, H1, I1, r, d, u, hd1, mu, q⟩ => ⟨I1.kIn, ?_⟩) he hpl
  obtain ⟨od, I2⟩ := I1.lock hd1 mu
  refine thn (run_fn F hr hb hd hx I2 r (q od)) fun v s2 ⟨x, H', I3, rx, hf, qq⟩ => ?_
  exact ⟨x, upd H' d u, I3.unlock hf (I1.nofrz hd1 mu), rx, qq⟩
end
/-- what holds no object -/
def flat : D → Bool
  | .none => true
  | .bool _ => true
  | .int _ => true
  | .str _ => true
  | _ => false
theorem flat_rep {K : Fg} {H H' : Hp} {v : V} {d : D} (h : flat d = true) (r : Rep K H v d) : Rep K H' v d := by
  cases d with
  | none => rw [r.nonv]; exact .non
  | bool b => cases r; exact .bl b
  | int i => rw [r.intv]; exact .int i
  | str x => rw [r.strv]; exact .str x
  | _ => cases h
/-- the k-th argument is looked at alone -/
def eCallP (F : FnS) (k : Nat) (a : SS → Res (List Ar)) : FE := fun ss => (a ss).bind fun as s1 => match as[k]? with
  | some (.ref i) => match objAt s1 i with
    | some o => if refs (as.set k (.d o.toD)) = [] then (match callAt F (as.set k (.d o.toD)) s1 with
      | some (.imm d, _) => if flat d = true then .ok d s1 else .no
      | _ => .no) else .no
    | none => .no
  | _ => .no
theorem refs_nil : ∀ {as : List Ar} {ss : SS} {args : List Sl}, refs as = [] → resolve ss as = some args → ∀ (i : Nat) (u : O), args[i]? ≠ some (.bor u)
  | [], _, _, _, e, i, u, h => by cases e; cases h
  | .d d :: r, ss, args, n, e, i, u, h => by
    obtain ⟨t, h1, rfl⟩ := Option.map_eq_some_iff.mp e
    cases i with
    | zero => cases h
    | succ i => exact refs_nil (as := r) n h1 i u h
  | .ref j :: r, _, _, n, _, _, _, _ => by cases n
section
variable {X : Cx} {kk : Nat} {f : Addr} {fd : FuncData} {ps : List Str} {F : FnS} {x : Str} {e : Expr} {es : List Expr} {p pos : Pos} {fa : SS → Res (List Ar)}
theorem xcallP (k : Nat) (G : FnOk X.prog X.w X.F X.mg X.base CX0 kk f fd ps (spOf X.F F ps.length)) (hr : Room kk X.A) (hm : X.mg x = some (.ref f)) (hk : PySem.W.keepIn X.F (.ref f) = true) (hb : Binds X.F fd ps []) (ha : PA X (e :: es) (tA X.F fa)) (hl : (e :: es).length = ps.length := by rfl) (hal : LenA fa (e :: es).length) (hg : Gl X x := by rfl)
    (hdb : (x == ("__debug__" : Str)) = false := by decide) (he : starEach (e :: es) X.env = (false, eval e X.env) :: starEach es X.env := by rfl) (hpl : (backTo pos (starEach es X.env)).any (·.1) = false := by rfl) : PE X (.Call (.Name x p) (e :: es) [] pos) (tD X.F (eCallP F k fa)) := by
  refine (pe_callL G hr hg hm hk hb .nil pass0 ha hdb he hpl).imp fun σ H Q q => ?_
  obtain ⟨fx, ss, d, s3, fr, e, kq⟩ := q
  obtain ⟨as, s1, e1, e⟩ := bind_ok e
  split at e
  rotate_left
  · cases e
  rename_i i hk2
  split at e
  rotate_left
  · cases e
  rename_i o ho
  split at e
  rotate_left
  · cases e
  rename_i hrf
  split at e
  rotate_left
  · cases e
  rename_i d2 s2 ec
  split at e
  rotate_left
  · cases e
  rename_i hfl
  cases e
  refine ⟨fx, ss, as, s3, fr, e1, fun vs H1 k1 f1 ra => ?_⟩
  obtain ⟨s0, e0, eo⟩ := objAt_some ho
  obtain ⟨q, h1, h2, _⟩ := (f1.slot i s0 e0).obj eo
  obtain ⟨u, hu, lu, mu, rp⟩ := OwnAt.loose h2
  refine ⟨q, u, hu, mu, fun od => ?_⟩
  have k2 : Kp H1 (upd H1 q (.frz od u)) := Kp.upd hu lu
  obtain ⟨al, ag⟩ := argsR_get ra
  obtain ⟨_, args, args', c1, c2, c3⟩ := callAt_some ec
  rw [List.append_nil]
  have hlen : as.length = ps.length := (hal _ _ _ e1).trans hl
  have nb := refs_nil hrf c1
  refine ⟨by rw [al, hlen], args, .imm d, args', ⟨?_, fun j sl v g1 g2 => ?_, fun i j o u v g1 _ _ _ => absurd g1 (nb i o)⟩, c2, fun v H' pc => ?_⟩
  · rw [resolve_len c1, List.length_set, al]
  · rcases resolve_get c1 g1 with ⟨d3, a, z⟩ | ⟨i', s', o', a, b, c, z⟩
    · subst z
      rw [List.getElem?_set] at a
      split at a
      · rename_i hj
        subst hj
        split at a
        · cases a
          cases ag k v _ g2 hk2 with
          | ref hs =>
            rw [h1] at hs
            cases hs
            exact rp od
        · cases a
      · cases ag j v _ g2 a with
        | d r => exact r.kp k2
    · subst z
      exact absurd g1 (nb j o')
  · have sm0 : ∀ a ob, (upd H1 q (.frz od u)) a = some ob → H' a = some ob := fun a ob z => pc.rest a ob z fun i' u' w1 _ => nb i' u' w1
    have hq : H' q = some (.frz od u) := sm0 q _ upd_same
    refine ⟨hq, ?_⟩
    have sm : Same H1 (upd H' q u) := fun a ob z => by
      by_cases c : a = q
      · subst c
        rw [upd_same, ← z, hu]
      · rw [upd_ne c]
        exact sm0 a ob (by rw [upd_ne c]; exact z)
    exact kq v _ (k1.trans (.same sm)) (f1.same sm) (flat_rep hfl pc.ret)
end
section
variable {X : Cx} {kk : Nat} {x : Str} {ps : List Str} {F : FnS} {e : Expr} {es : List Expr} {p pos : Pos} {fa : SS → Res (List Ar)}
theorem xcp (k : Nat) (G : Ok X.prog X.F X.mg X.base kk x ps F) (hr : Room kk X.A) (ha : PA X (e :: es) (tA X.F fa)) (hal : LenA fa (e :: es).length) (hl : (e :: es).length = ps.length := by rfl) (hg : Gl X x := by rfl)
    (hdb : (x == ("__debug__" : Str)) = false := by decide) (he : starEach (e :: es) X.env = (false, eval e X.env) :: starEach es X.env := by rfl) (hpl : (backTo pos (starEach es X.env)).any (·.1) = false := by rfl) : PE X (.Call (.Name x p) (e :: es) [] pos) (tD X.F (eCallP F k fa)) := by
  obtain ⟨f, fd, G, m, kp, bi⟩ := G
  exact xcallP k G hr m kp bi ha hl hal hg hdb he hpl
end
end Dt

/-! Dt24: enumerate of a tuple. -/
namespace DtE
open PySem PySem.Spec PyProof.Rows L2
open AutoSeq1 (wpAny_loadPart')
theorem draws_tuple {prog : Program} {w : World} {A : Around} (hh : A.handled = none) (it l : Addr) (hne : l ≠ it) (items : Array Value) :
    Draws prog w A it [it, l] items.size (fun i v => items[i]? = some v) (fun i h => h.IsTupleIter it l i ∧ h.IsTuple l items) where
  live := fun _ _ st => let ⟨o, ho, _⟩ := st.1; ⟨o, ho⟩
  frame := fun _ _ _ st hk => ⟨let ⟨o, ho, r⟩ := st.1; ⟨o, hk it (by simp) o ho, r⟩, let ⟨o, ho, r⟩ := st.2; ⟨o, hk l (by simp) o ho, r⟩⟩
  item := fun i s Q E hi st hQ => by
    refine wpAny_nextOf_tuple_item st.1 st.2 (x := items[i]) (by simp [hi]) fun h' hit' hs' => ?_
    exact hQ _ h' s.toks (by simp [hi]) ⟨hit', st.2.extBut hs'.extBut hne⟩ hs'
  done := fun s Q E st hE => wpAny_nextOf_tuple_end hh st.1 st.2 (by simp) hE
theorem enum_newT (l : Addr) (items : Array Value) (n : Nat) (dct : Option Addr) (sl : Array (Option Value)) :
    Meets (Builtin.«enumerate.__new__» ⟨[.type "enumerate", .ref l], []⟩) (fun _ R s => s.heap.get? l = some { cls := .type "tuple", dict := dct, data := .seq items n, slots := sl } ∧
      R (.ok (.ret (.ref (s.heap.push { cls := .type "tuple_iterator", data := .fields #[.ref l, .int 0 0] }).objs.size)))
        { s with heap := (s.heap.push { cls := .type "tuple_iterator", data := .fields #[.ref l, .int 0 0] }).push { cls := .type "enumerate", data := .fields #[.none, .bool false, .ref s.heap.objs.size, rawInt 0, .none, .none] } }) :=
  .of_wp fun prog w A R s h => by
    obtain ⟨hp, g, d, tk, os⟩ := s; obtain ⟨hl, h⟩ := h
    have hsub := sub_enumerate
    have hT : Heap.IsTuple (Shared.heap ⟨hp, g, d, tk, os⟩) l items := ⟨_, hl, rfl, n, rfl⟩
    wp_walk using wpAny_loadPart' hl
    refine wpAny_stack_any fun st => wpAny_pure ?_
    split
    · rename_i c _ _ _ _ _
      cases (c == Value.type "enumerate") <;> wp_walk using wpAny_loadPart' hl, wpAny_pyIter_tuple hT <;> exact ⟨_, rfl, h⟩
    · wp_walk using wpAny_loadPart' hl, wpAny_pyIter_tuple hT
      exact ⟨_, rfl, h⟩
section
variable {prog : Program} {w : World} {A : Around} {E : Value → Shared → Prop} {s : Shared}
theorem call_enumT {l : Addr} {items : Array Value} {Q : Value → Shared → Prop} (hL : s.heap.IsTuple l items)
    (h : ∀ h', IsEnum h' (s.heap.objs.size + 1) s.heap.objs.size 0 .none → h'.IsTupleIter s.heap.objs.size l 0 → (∀ b o, s.heap.get? b = some o → h'.get? b = some o) → Q (.ref (s.heap.objs.size + 1)) { s with heap := h' }) :
    wpAny (model prog w) A (call (.type "enumerate") [.ref l]) Q E s := by
  obtain ⟨⟨c, dct, dt, sl⟩, hl, hc, n, hd⟩ := hL
  replace hc : c = .type "tuple" := hc
  replace hd : dt = .seq items n := hd
  subst hc hd
  refine callType_new F.called_enumerate (by decide) (F.typeCall_enumerate_1 _) (F.newCall_enumerate_1 _) (fun obj => F.args_object_init_2 obj _) F.entry_enumerate_new (enum_newT l items n dct sl) ⟨hl, ?_⟩
  have hz : (s.heap.push { cls := .type "tuple_iterator", data := .fields #[.ref l, .int 0 0] }).objs.size = s.heap.objs.size + 1 := Heap.size_push ..
  show _ ∧ _
  rw [hz]
  have he : IsEnum ((s.heap.push { cls := .type "tuple_iterator", data := .fields #[.ref l, .int 0 0] }).push
      { cls := .type "enumerate", data := .fields #[.none, .bool false, .ref s.heap.objs.size, rawInt 0, .none, .none] }) (s.heap.objs.size + 1) s.heap.objs.size 0 .none := by
    have q := Heap.get?_push_size (s.heap.push { cls := .type "tuple_iterator", data := .fields #[.ref l, .int 0 0] })
      (o := { cls := .type "enumerate", data := .fields #[.none, .bool false, .ref s.heap.objs.size, rawInt 0, .none, .none] }) rfl
    rw [hz] at q
    exact q
  exact ⟨⟨_, he, rfl⟩, h _ he ⟨_, Heap.get?_push_of_some _ (Heap.get?_push_size _ rfl), rfl, rfl⟩ fun b o x => Heap.get?_push_of_some _ (Heap.get?_push_of_some _ x)⟩
end
theorem next_endT {prog : Program} {w : World} {A : Around} {E : Value → Shared → Prop} {s : Shared} {e it l : Addr} {i : Int} {j : Nat} {items : Array Value} {old : Value} {Q : Option Value → Shared → Prop} (hh : A.handled = none)
    (he : IsEnum s.heap e it i old) (hit : s.heap.IsTupleIter it l j) (hl : s.heap.IsTuple l items) (hx : items[j]? = none)
    (hQ : ∀ h', Heap.ExtBut it s.heap h' → Q none { s with heap := h' }) : wpAny (model prog w) A (pyNext (.ref e)) Q E s := by
  unfold pyNext
  refine wpAny_bind (wpAny_attempt (wpAny_callSpecial?_slot (name := Str.ofString "__next__") (T := "enumerate") ⟨_, he, rfl⟩ F.slot_enumerate_next
    (wpAny_call_entry F.slot_enumerate_next (T := "enumerate") ⟨_, he, rfl⟩ F.entry_enumerate_next ?_ (F.args_enumerate_next_1 _))))
  show wpAny _ A.in1 (field (Value.ref e) 2 >>= _) _ _ s
  refine wpAny_bind (wpAny_field he rfl (x := Value.ref it) rfl ?_)
  refine wpAny_bind (wpAny_nextOf_tuple_end (by exact hh) hit hl hx fun h' x eb hx' => ?_)
  obtain ⟨o, ho, hc⟩ := hx'
  refine wpAny_bind (wpAny_isInstance (T := "StopIteration") (b := true) ⟨o, ho, hc⟩ isSubtype_stop ?_)
  exact wpAny_pure (hQ _ eb)
/-- the tuple at a, each item in a new pair -/
def Iet (K : PySem.W.Frag) (a : Addr) : It :=
  ⟨fun i H => ∃ (xs : List V) (x : V), SqT K H a xs ∧ xs[i]? = some x, fun i H v H' => ∃ T x, v = .ref T ∧ H T = none ∧ H' = upd H T (.tup [.int (i : Nat), x]) ∧ ∀ xs, SqT K H a xs → xs[i]? = some x, fun i H => ∃ xs : List V, SqT K H a xs ∧ xs.length ≤ i⟩
theorem turn_enumT {P : Program} {w : World} {K : PySem.W.Frag} {elts : List Expr} {kk : Nat} {tpos : Pos} (a e it : Addr) :
    Turn P w K (.Tuple elts kk tpos) (Iet K a) [e, it] e (fun i h => (∃ old, IsEnum h e it ((i : Nat) : Int) old) ∧ h.IsTupleIter it a i ∧ e ≠ it) where
  mem := by simp
  obj := fun i h st b hb => by
    obtain ⟨⟨old, he⟩, ⟨o, ho, hc, hd⟩, _⟩ := st
    simp only [List.mem_cons, List.not_mem_nil, or_false] at hb
    rcases hb with rfl | rfl
    · exact ⟨_, he, fun v q => nomatch q⟩
    · exact ⟨o, ho, fun v q => by rw [hd] at q; cases q⟩
  keep := fun i h h' st k => let ⟨⟨old, he⟩, ⟨o, ho, r⟩, hne⟩ := st; ⟨⟨old, k e (by simp) _ he⟩, ⟨o, k it (by simp) _ ho, r⟩, hne⟩
  item := by
    intro X hP hw hK hc i pins s σ H E I hf st hg
    subst hP hw hK
    obtain ⟨⟨old, he⟩, hit, hne⟩ := st
    obtain ⟨xs, x, hq, hx⟩ := hg
    obtain ⟨its, rv, p, hz⟩ := I.tuple hq
    obtain ⟨u, hu, ru⟩ := rv.get hx
    have hel : e < s.heap.objs.size := Heap.lt_size he
    have hil : it < s.heap.objs.size := by obtain ⟨_, q, _⟩ := hit; exact Heap.lt_size q
    have hai : a ≠ it := by
      rintro rfl
      obtain ⟨o, q1, q2, _⟩ := hit
      obtain ⟨o', g1, g2, _⟩ := p
      rw [q1] at g1
      cases g1
      rw [q2] at g2
      exact absurd g2 (by decide)
    have hae : e ≠ a := by
      rintro rfl
      obtain ⟨o', g1, g2, _⟩ := p
      have he2 : s.heap.get? e = some _ := he
      rw [he2] at g1
      cases g1
      exact absurd (show Value.type "enumerate" = Value.type "tuple" from g2) (by decide)
    have hi : i < its.toArray.size := by rw [List.size_toArray]; exact (List.getElem?_eq_some_iff.mp hu).1
    refine wpAny_pyNext_enum_itemD (draws_tuple (by show X.A.in1.handled = none; exact I.ok.hd hc) it a hai its.toArray) he ⟨hit, p⟩ hi hne (by simp [hne, hae]) fun u2 h' tk hu2 ho hs2 hT hsz hk => ?_
    have eu : u2 = u := by
      have q : its[i]? = some u2 := by simpa using hu2
      rw [hu] at q
      exact (Option.some.inj q).symm
    subst eu
    refine ⟨_, rfl, wpAny_letOwnedTupleGo_enum (s := { s with heap := h', toks := tk + 1 }) ho fun h'' he' sb => ?_⟩
    have hT2 : h''.get? s.heap.objs.size = some { cls := .type "tuple", data := .seq #[.int i tk, u2] } := (sb.2 _ (Nat.ne_of_gt hel)).trans hT
    have new : ObjOk X.prog X.w (upd H s.heap.objs.size (.tup [.int (i : Nat), x])) h'' s.heap.objs.size (.tup [.int (i : Nat), x]) :=
      ⟨by show 2 ≤ sizeLine; decide, [.int i tk, u2], .cons ⟨_, rfl⟩ (.cons ru .nil), ⟨_, hT2, rfl, _, rfl⟩⟩
    have I1 : Inv X pins σ (upd H s.heap.objs.size (.tup [.int (i : Nat), x])) { s with heap := h'', toks := tk + 1 } :=
      I.turnedNew (ch := [e, it]) (fun b ob hb q => (sb.2 b (fun z => hb (by simp [z]))).trans (hk b ob (fun z => hb (by simp [z])) (fun z => hb (by simp [z])) q)) hf (Nat.le_refl _) new
    refine ⟨.ref s.heap.objs.size, _, I1, rfl, ⟨_, x, rfl, I.hok.fresh (Nat.le_refl _), rfl, fun ys hy => by rw [I.tuple_inj hy hq]; exact hx⟩, ⟨⟨u2, ?_⟩, ?_, hne⟩, fun b hb => ?_⟩
    · have e1 : ((i + 1 : Nat) : Int) = (i : Int) + 1 := by omega
      rw [e1]; exact he'
    · obtain ⟨o, q1, r⟩ := hs2.1
      exact ⟨o, (sb.2 it (Ne.symm hne)).trans q1, r⟩
    · have hb' : b < s.heap.objs.size := by
        simp only [List.mem_cons, List.not_mem_nil, or_false] at hb
        rcases hb with rfl | rfl
        · exact hel
        · exact hil
      rw [upd_ne (Nat.ne_of_lt hb')]
      exact (hf b hb).1
  done := by
    intro X hP hw hK hc i pins s σ H E I hf st hg
    subst hP hw hK
    obtain ⟨⟨old, he⟩, hit, hne⟩ := st
    obtain ⟨xs, hq, hx⟩ := hg
    obtain ⟨its, rv, p, hz⟩ := I.tuple hq
    obtain ⟨f0, f1, f2, f3, f4, f5⟩ := hf it (by simp)
    have hl := rv.length
    exact next_endT (I.ok.hd hc) he hit p (by simp; omega) fun h' eb => ⟨rfl, I.turned (t' := s.toks) (fun b o hb q => eb b o hb q) f0 f1 f3 f4 f5⟩
  self := fun A i s Q E st h => let ⟨⟨_, he⟩, _⟩ := st; wpAny_pyIter_enum he h
def iEnumT (K : PySem.W.Frag) (ta : TA) : TI := fun σ H R => ta σ H fun vs H1 => ∃ a xs, vs = [.ref a] ∧ SqT K H1 a xs ∧ R (Iet K a) H1
theorem pi_enumT {X : Cx} {e : Expr} {ta : TA} {p pos tpos : Pos} {elts : List Expr} {kk : Nat} (hg : Gl X "enumerate") (hm : X.mg "enumerate" = none) (ha : PA X [e] ta) (hs : starEach [e] X.env = [(false, eval e X.env)] := by rfl) :
    PI X (.Tuple elts kk tpos) (.Call (.Name "enumerate" p) [e] [] pos) (iEnumT X.K ta) := by
  refine ⟨fun pins s σ H R I h => ?_⟩
  refine Call_ (ld_blt I hg hm boot_enumerate (PyProof.Rows.callWith_type1 (thn (ha.run pos pins s σ H _ I h) fun us s1 ⟨vs, H1, I1, r1, a, xs, ex, hq, q⟩ => ?_) hs rfl))
  subst ex
  cases r1 with
  | cons r rr =>
    cases rr
    cases r
    obtain ⟨its, rv, p', hz⟩ := I1.tuple hq
    refine call_enumT p' fun h' he hit hk => wpAny_pyIter_enum he ?_
    refine ⟨s1.heap.objs.size + 1, [s1.heap.objs.size + 1, s1.heap.objs.size], _, _, H1, rfl, I1.kept (t' := s1.toks) hk, turn_enumT a (s1.heap.objs.size + 1) s1.heap.objs.size, ⟨⟨.none, he⟩, hit, Nat.succ_ne_self _⟩, fun b hb => ?_, q⟩
    have hle : s1.heap.objs.size ≤ b := by
      simp only [List.mem_cons, List.not_mem_nil, or_false] at hb
      rcases hb with z | z
      · rw [z]; exact Nat.le_add_right _ _
      · rw [z]; exact Nat.le_refl _
    exact I1.fpOk hle (I1.hok.fresh hle)
end DtE
namespace Dt
open PySem PySem.Spec L2 DtE
open PyProof.Rows hiding St
theorem enumD_get {ds : List D} {i : Nat} {d : D} (e : (enumD ds)[i]? = some d) : ∃ x, ds[i]? = some x ∧ d = .tuple [.int (i : Int), x] := by
  unfold enumD at e
  rw [List.getElem?_zipWith] at e
  split at e
  · rename_i j x e1 e2
    cases e
    obtain ⟨h1, h2⟩ := List.getElem?_eq_some_iff.mp e1
    rw [List.getElem_range] at h2
    subst h2
    exact ⟨x, e2, rfl⟩
  · cases e
theorem walk_et {K : Fg} {a : Addr} {xs : List V} {ds : List D} {H : Hp} (h : SqT K H a xs) (r : RepAll K H xs ds) : Walk K (Iet K a) (enumD ds) H := fun i H' k => by
  have h' : SqT K H' a xs := sqT_kp k h
  have r' := r.kp k
  refine ⟨fun d e => ?_, fun hl => ⟨xs, h', ?_⟩⟩
  · obtain ⟨x, e2, rfl⟩ := enumD_get e
    obtain ⟨v, e3, rv⟩ := r'.get e2
    refine ⟨⟨xs, v, h', e3⟩, fun z H2 hy => ?_⟩
    obtain ⟨T, v', rfl, hT, rfl, z1⟩ := hy
    have e5 := z1 xs h'
    rw [e3] at e5
    cases e5
    exact ⟨same_new hT, .tup (.of upd_same) ((RepAll.cons (.int _) (.cons rv .nil)).kp (.same (same_new hT)))⟩
  · unfold enumD at hl
    rw [List.length_zipWith, List.length_range] at hl
    rw [r'.len]
    omega
def lEnumA (f : FL) : FL := fun ss => (f ss).bind fun d s1 => match d with
  | [.list xs] => .ok (enumD xs) s1
  | [.tuple xs] => .ok (enumD xs) s1
  | _ => .no
theorem ienumA {X : Cx} {a : Expr} {fl : FL} {p pos tpos : Pos} {elts : List Expr} {kk : Nat} (hm : X.mg "enumerate" = none) (ha : PA X [a] (tL X.F fl)) (hg : Gl X "enumerate" := by rfl) (hs : starEach [a] X.env = [(false, eval a X.env)] := by rfl) :
    PI X (.Tuple elts kk tpos) (.Call (.Name "enumerate" p) [a] [] pos) (iD X.F (lEnumA fl)) := by
  refine ⟨fun pins s σ H R I q => ?_⟩
  obtain ⟨fx, ss, ds, s2, fr, e, k⟩ := q
  obtain ⟨d, s1, e1, e⟩ := bind_ok e
  split at e
  · cases e
    refine (pi_enum hg hm ha hs).run pins s σ H R I ⟨fx, ss, _, _, fr, e1, fun vs H1 k1 f1 r1 => ?_⟩
    obtain ⟨v, rfl, rv⟩ := r1.one
    obtain ⟨a1, xs, rfl, h1, q1⟩ := rv.lstv
    exact ⟨a1, xs, rfl, h1.sq, k _ _ k1 f1 (walk_e h1 q1)⟩
  · cases e
    refine (pi_enumT hg hm ha hs).run pins s σ H R I ⟨fx, ss, _, _, fr, e1, fun vs H1 k1 f1 r1 => ?_⟩
    obtain ⟨v, rfl, rv⟩ := r1.one
    obtain ⟨a1, xs, rfl, h1, q1⟩ := rv.tupv
    exact ⟨a1, xs, rfl, h1, k _ _ k1 f1 (walk_et h1 q1)⟩
  · cases e
end Dt

/-! Dt25: what is never reached; x in range(a, b); len of a dict of one's own; d.pop(k). -/
namespace Dt
open PySem PySem.Spec L2
open PyProof.Rows hiding St
section
variable {X : Cx} {a b c : Expr} {f g h : FE} {fn : FN} {pos : Pos}
/-- nothing is promised -/
def eNo : FE := fun _ => .no
def nNo : FN := fun _ => .no
def sNo : FS := fun _ => .no
theorem xno {e : Expr} : PE X e (tD X.F eNo) := ⟨fun pins s σ H Q I q => by
  obtain ⟨fx, ss, d, s3, f, e, k⟩ := q
  cases e⟩
theorem xnoN {e : Expr} : PE X e (tN X.F nNo) := ⟨fun pins s σ H Q I q => by
  obtain ⟨fx, ss, d, s3, f, e, k⟩ := q
  cases e⟩
theorem sno {st : Stmt} : PS X st (tS X.F sNo) := ⟨fun pins s σ H E I q => by
  obtain ⟨fx, ss, fr, k⟩ := q
  exact k.elim⟩
/-- x in range(a, b) -/
def eInR (n : Bool) (f g h : FE) : FE := fun ss => (f ss).bind fun x s1 => (g s1).bind fun y s2 => (h s2).bind fun z s3 => match x, y, z with
  | .int i, .int lo, .int hi => .ok (.bool (cond n (!decide (lo ≤ i ∧ i < hi)) (decide (lo ≤ i ∧ i < hi)))) s3
  | _, _, _ => .no
/-- x (not) in a range that is laid -/
def rRg (n : Bool) : R2 := fun x y H Q => ∃ i r lo hi, x = V.int i ∧ y = V.ref r ∧ H r = some (.rng lo hi) ∧ Q (.bl (cond n (!decide (lo ≤ i ∧ i < hi)) (decide (lo ≤ i ∧ i < hi)))) H
def rRg2 : List V → Hp → VK → Prop := fun vs H Q => ∃ lo hi, vs = [V.int lo, V.int hi] ∧ ∀ r, H r = none → Q (.ref r) (upd H r (.rng lo hi))
theorem op_nin : OpR X (compareOp .NotIn) (rRg true) := fun pins s σ H x y v u Q I rx ry ⟨i, r, lo, hi, e1, e2, hr, q⟩ => by
  subst e1 e2
  cases (show u = Value.ref r from ry)
  obtain ⟨k, rfl⟩ := rx
  obtain ⟨t1, t2, t3, ob⟩ := I.hok r _ hr
  have ty : s.TypeIs (.ref r) "range" := ⟨_, ob, rfl⟩
  show wpAny _ _ (do return Value.bool (!(← contains (.ref r) (.int i k)))) _ _ s
  refine wpAny_bind ?_
  refine wpAny_contains_slot ty PySem.F.slot_range_contains ?_
  refine call_meets PySem.F.slot_range_contains ty PySem.F.entry_range_contains (PySem.F.args_range_contains_2 _ _) (q_contains r lo hi i t1 t2 t3 k) ⟨ob, wpAny_truthy_bool (wpAny_pure ?_)⟩
  rw [place1]
  exact ⟨.bl _, H, I, rfl, q⟩
theorem inr_read {n : Bool} {σ : St} {H : Hp} {Q : VK} (q : tD X.F (eInR n f g h) σ H Q) : tOp (rRg n) (tD X.F f) (tCB rRg2 (tCons (tD X.F g) (tCons (tD X.F h) tNil))) σ H Q := by
  obtain ⟨fx, ss, d, s4, fr, e, k⟩ := q
  obtain ⟨x, s1, e1, e⟩ := bind_ok e
  obtain ⟨y, s2, e2, e⟩ := bind_ok e
  obtain ⟨z, s3, e3, e⟩ := bind_ok e
  split at e
  · cases e
    refine ⟨fx, ss, _, s1, fr, e1, fun v H1 k1 f1 r1 => ⟨fx, s1, _, s2, f1, e2, fun w H2 k2 f2 r2 => ⟨fx, s2, _, _, f2, e3, fun u H3 k3 f3 r3 => ?_⟩⟩⟩
    have r1' := r1.intv
    have r2' := r2.intv
    have r3' := r3.intv
    subst r1' r2' r3'
    refine ⟨_, _, rfl, fun p hp => ⟨_, p, _, _, rfl, rfl, upd_same, ?_⟩⟩
    exact k _ _ ((k1.trans (k2.trans k3)).trans (.same (same_new hp))) (f3.new hp) (.bl _)
  · cases e
theorem xinr {p p2 : Pos} (hm : X.mg "range" = none) (ha : PE X a (tD X.F f)) (hb : PE X b (tD X.F g)) (hc : PE X c (tD X.F h)) (hg : Gl X "range" := by rfl) (hv : bootBuiltins "range" = some (.type "range") := by rfl)
    (he : starEach [b, c] X.env = (false, eval b X.env) :: starEach [c] X.env := by rfl) (hpl : (backTo p2 (starEach [c] X.env)).any (·.1) = false := by rfl) (hs : starEach [c] X.env = (false, eval c X.env) :: starEach [] X.env := by rfl) (hb2 : behindInMarks .In (.Call (.Name "range" p) [b, c] [] p2) = false := by rfl) :
    PE X (.Compare a [.In] [.Call (.Name "range" p) [b, c] [] p2] pos) (tD X.F (eInR false f g h)) :=
  (pe_cmpR op_in_rng ha (pe_callTy cr_range2 hg hm hv (pa_cons hb (pa_cons hc pa_nil hs) he) (by decide) (by decide) he hpl) hb2).imp fun σ H Q q => inr_read q
theorem tinr {p p2 : Pos} (hm : X.mg "range" = none) (ha : PE X a (tD X.F f)) (hb : PE X b (tD X.F g)) (hc : PE X c (tD X.F h)) (hg : Gl X "range" := by rfl) (hv : bootBuiltins "range" = some (.type "range") := by rfl)
    (he : starEach [b, c] X.env = (false, eval b X.env) :: starEach [c] X.env := by rfl) (hpl : (backTo p2 (starEach [c] X.env)).any (·.1) = false := by rfl) (hs : starEach [c] X.env = (false, eval c X.env) :: starEach [] X.env := by rfl) (hb2 : behindInMarks .In (.Call (.Name "range" p) [b, c] [] p2) = false := by rfl) :
    PT X (.Compare a [.In] [.Call (.Name "range" p) [b, c] [] p2] pos) (tT X.F (bOf (eInR false f g h))) :=
  tread (pt_cmpR op_in_rng ha (pe_callTy cr_range2 hg hm hv (pa_cons hb (pa_cons hc pa_nil hs) he) (by decide) (by decide) he hpl) hb2) fun σ H Q q => inr_read q
theorem xninr {p p2 : Pos} (hm : X.mg "range" = none) (ha : PE X a (tD X.F f)) (hb : PE X b (tD X.F g)) (hc : PE X c (tD X.F h)) (hg : Gl X "range" := by rfl) (hv : bootBuiltins "range" = some (.type "range") := by rfl)
    (he : starEach [b, c] X.env = (false, eval b X.env) :: starEach [c] X.env := by rfl) (hpl : (backTo p2 (starEach [c] X.env)).any (·.1) = false := by rfl) (hs : starEach [c] X.env = (false, eval c X.env) :: starEach [] X.env := by rfl) (hb2 : behindInMarks .NotIn (.Call (.Name "range" p) [b, c] [] p2) = false := by rfl) :
    PE X (.Compare a [.NotIn] [.Call (.Name "range" p) [b, c] [] p2] pos) (tD X.F (eInR true f g h)) :=
  (pe_cmpR op_nin ha (pe_callTy cr_range2 hg hm hv (pa_cons hb (pa_cons hc pa_nil hs) he) (by decide) (by decide) he hpl) hb2).imp fun σ H Q q => inr_read q
theorem tninr {p p2 : Pos} (hm : X.mg "range" = none) (ha : PE X a (tD X.F f)) (hb : PE X b (tD X.F g)) (hc : PE X c (tD X.F h)) (hg : Gl X "range" := by rfl) (hv : bootBuiltins "range" = some (.type "range") := by rfl)
    (he : starEach [b, c] X.env = (false, eval b X.env) :: starEach [c] X.env := by rfl) (hpl : (backTo p2 (starEach [c] X.env)).any (·.1) = false := by rfl) (hs : starEach [c] X.env = (false, eval c X.env) :: starEach [] X.env := by rfl) (hb2 : behindInMarks .NotIn (.Call (.Name "range" p) [b, c] [] p2) = false := by rfl) :
    PT X (.Compare a [.NotIn] [.Call (.Name "range" p) [b, c] [] p2] pos) (tT X.F (bOf (eInR true f g h))) :=
  tread (pt_cmpR op_nin ha (pe_callTy cr_range2 hg hm hv (pa_cons hb (pa_cons hc pa_nil hs) he) (by decide) (by decide) he hpl) hb2) fun σ H Q q => inr_read q
end
end Dt

/-! Dt26: d.pop(k), len(d) of dicts of one's own. -/
namespace Dt
open PySem PySem.Spec L2
open PyProof.Rows hiding St
theorem drop_rep {K : Fg} {H : Hp} {k : Key} : ∀ {kvs : List (Key × V)} {es : List D}, RepAll K H (kvs.map (·.2)) es → ∃ es', RepAll K H ((dropK kvs k).map (·.2)) es' ∧ ddrop ((kvs.map fun p => keyD p.1).zip es) (keyD k) = ((dropK kvs k).map fun p => keyD p.1).zip es'
  | [], es, h => by cases h; exact ⟨[], .nil, rfl⟩
  | p :: r, es, h => by
    cases h with
    | @cons _ _ d ds h t =>
      obtain ⟨es', h1, h2⟩ := drop_rep (k := k) t
      unfold ddrop dropK at *
      rw [List.map_cons, List.zip_cons_cons, List.filter_cons, List.filter_cons]
      by_cases e : p.1 = k
      · have e2 : kEq (keyD p.1) (keyD k) = true := by rw [kEq_keyD, decide_eq_true e]
        rw [if_neg (show ¬((!kEq (keyD p.1) (keyD k)) = true) by simp [e2]), if_neg (show ¬(decide (p.1 ≠ k) = true) by simp [e])]
        exact ⟨es', h1, h2⟩
      · have e2 : kEq (keyD p.1) (keyD k) = false := by rw [kEq_keyD, decide_eq_false e]
        rw [if_pos (show (!kEq (keyD p.1) (keyD k)) = true by simp [e2]), if_pos (show decide (p.1 ≠ k) = true by simp [e])]
        exact ⟨d :: es', .cons h h1, by rw [h2]; rfl⟩
theorem keyD_of {k : D} (h : kGood false k = true) : ∃ q : Key, k = keyD q := by
  cases k <;> first | exact ⟨.inl _, rfl⟩ | exact ⟨.inr _, rfl⟩ | cases h
theorem repK_key {K : Fg} {H : Hp} {v : V} {q : Key} (h : Rep K H v (keyD q)) : v = kV q := by
  cases q with
  | inl i => exact h.intv
  | inr x => exact h.strv
section
variable {X : Cx} {f : FE}
def sPopD (i : Nat) (f : FE) : FS := fun ss => match objAt ss i with
  | some (.dct _) => match f ss with
    | .ok k s1 => match s1[i]? with
      | some s => match s.obj with
        | some (.dct kvs) => if kGood false k = true ∧ (look kvs k).isSome = true then .nx (s1.set i (s.put (.dct (ddrop kvs k)))) else .no
        | _ => .no
      | none => .no
    | .no => .no
  | _ => .no
theorem spopD (i : Nat) {st : Stmt} (h : PS X st (tDrop (tDPop1 (tVar i) (tD X.F f)))) : PS X st (tS X.F (sPopD i f)) := by
  refine h.imp fun E σ H q => ?_
  obtain ⟨fx, ss, fr, k⟩ := tS_iff.mp q
  unfold sPopD at k
  split at k
  rotate_left
  · exact k.elim
  rename_i ds0 ho
  obtain ⟨s0, e0, eo⟩ := objAt_some ho
  obtain ⟨q, h1, ⟨kvs0, es0, h2, _⟩, _⟩ := (fr.slot i s0 e0).obj eo
  split at k
  rotate_left
  · exact k.elim
  rename_i kd s1 e1
  split at k
  rotate_left
  · exact k.elim
  rename_i s es_
  split at k
  rotate_left
  · exact k.elim
  rename_i ds eo2
  split at k
  rotate_left
  · exact k.elim
  rename_i hl
  refine ⟨_, h1, q, rfl, .inl ⟨kvs0, .inl h2⟩, fx, ss, kd, s1, fr, e1, fun v H1 k1 f1 r1 => ?_⟩
  obtain ⟨q2, z1, ⟨kvs, es, z2, z3, z4⟩, _⟩ := (f1.slot i s es_).obj eo2
  rw [h1] at z1
  cases z1
  obtain ⟨qk, rfl⟩ := keyD_of hl.1
  have hv := hl.2
  rw [z4, look_isSome z3] at hv
  obtain ⟨v0, hv⟩ := Option.isSome_iff_exists.mp hv
  obtain ⟨es', g1, g2⟩ := drop_rep (k := qk) z3
  obtain ⟨f2, k2⟩ := f1.mut (o' := .dct (ddrop ds (keyD qk))) (u := .dK (dropK kvs qk)) es_ eo2 h1 fun kk => ⟨_, es', upd_same, g1.kp kk, by rw [z4]; exact g2⟩
  exact ⟨kvs, qk, v0, z2, repK_key r1, hv, k _ _ (k1.trans k2) f2⟩
/-- len(d) -/
def rLenD (K : Fg) : List V → Hp → VK → Prop := fun vs H Q => ∃ a n kvs, vs = [.ref a] ∧ DAt K H a n kvs ∧ Q (.int kvs.length) H
theorem cLenD : CallR X (.builtin "len") (rLenD X.F) := by
  intro pins s σ H vs us Q I r ⟨a, n, kvs, e, g, k⟩
  subst e
  rw [Vals.ref1 r]
  exact da_len I g fun t s' I' => ⟨.int _, H, I', ⟨t, rfl⟩, k⟩
def eOlenD (i : Nat) : FE := fun ss => match (objAt ss i).bind kvO with
  | some (_, kvs) => .ok (.int kvs.length) ss
  | none => .no
theorem xolenD (i : Nat) {e : Expr} (h : PE X e (tCB (rLenD X.F) (tCons (tVar i) tNil))) : PE X e (tD X.F (eOlenD i)) := by
  refine h.imp fun σ H Q q => ?_
  obtain ⟨fx, ss, d, s3, fr, e, k⟩ := q
  unfold eOlenD at e
  split at e
  rotate_left
  · cases e
  rename_i n kvs hob
  cases e
  obtain ⟨o1, hob1, hob2⟩ := Option.bind_eq_some_iff.mp hob
  have := kvO_some hob2
  subst this
  obtain ⟨s0, e0, eo⟩ := objAt_some hob1
  obtain ⟨p, h1, h2, _⟩ := (fr.slot i s0 e0).obj eo
  exact ⟨_, h1, p, n, kvs, rfl, h2.dat, k _ H (Kp.refl H) fr (.int _)⟩
end
end Dt

/-! Dt27: dict(x) of pairs; {k: v, ..}. -/
namespace Dt
open PySem PySem.Spec L2
open PyProof.Rows hiding St
def pairOf : D → Option (D × D)
  | .tuple [k, v] => some (k, v)
  | _ => none
/-- pairs put one behind the other -/
def dputs (acc kvs : List (D × D)) : List (D × D) := kvs.foldl (fun a p => dput a p.1 p.2) acc
def keysOk (kvs : List (D × D)) : Bool := kvs.all fun p => kGood false p.1
theorem merge_rep {K : Fg} {H : Hp} : ∀ {ws : List (Key × V)} {fs : List D} {acc : List (Key × V)} {es : List D}, RepAll K H (ws.map (·.2)) fs → RepAll K H (acc.map (·.2)) es →
    ∃ gs, RepAll K H ((mergeK acc ws).map (·.2)) gs ∧ dputs ((acc.map fun p => keyD p.1).zip es) ((ws.map fun p => keyD p.1).zip fs) = ((mergeK acc ws).map fun p => keyD p.1).zip gs
  | [], fs, acc, es, h, g => by cases h; exact ⟨es, g, rfl⟩
  | p :: ws, fs, acc, es, h, g => by
    cases h with
    | @cons _ _ d fs h t =>
      obtain ⟨e1, g1, g2⟩ := put_k (k := p.1) h g
      obtain ⟨gs, h1, h2⟩ := merge_rep t g1
      refine ⟨gs, h1, ?_⟩
      unfold dputs at h2 ⊢
      rw [List.map_cons, List.zip_cons_cons, List.foldl_cons, g2]
      exact h2
theorem pairs_in {K : Fg} {H : Hp} : ∀ {vs : List V} {ds : List D} {kvs : List (D × D)}, RepAll K H vs ds → ds.mapM pairOf = some kvs → keysOk kvs = true →
    ∃ (ps : List Addr) (ws : List (Key × V)) (fs : List D), vs = ps.map V.ref ∧ Paired (fun p kv => SqT K H p [kV kv.1, kv.2]) ps ws ∧ RepAll K H (ws.map (·.2)) fs ∧ kvs = (ws.map fun p => keyD p.1).zip fs
  | _, [], kvs, .nil, e, _ => by cases e; exact ⟨[], [], [], rfl, .nil, .nil, rfl⟩
  | _, d :: ds, kvs, .cons h t, e, g => by
    rw [List.mapM_cons] at e
    obtain ⟨⟨k, x⟩, e1, e⟩ := Option.bind_eq_some_iff.mp e
    obtain ⟨kvs', e2, e⟩ := Option.bind_eq_some_iff.mp e
    cases e
    unfold keysOk at g
    rw [List.all_cons, Bool.and_eq_true] at g
    obtain ⟨ps, ws, fs, rfl, p1, p2, p3⟩ := pairs_in t e2 g.2
    unfold pairOf at e1
    split at e1
    · cases e1
      obtain ⟨a, xs, rfl, s1, s2⟩ := h.tupv
      obtain ⟨v, w, rfl, r1, r2⟩ := s2.two
      obtain ⟨q, rfl⟩ := keyD_of g.1
      have := repK_key r1
      subst this
      exact ⟨a :: ps, (q, w) :: ws, _ :: fs, rfl, .cons s1 p1, .cons r2 p2, by rw [p3]; rfl⟩
    · cases e1
/-- dict(d), a copy -/
def gDict : List D → Option O
  | [d] => match kvsOf d with
    | some (false, kvs) => some (.dct kvs)
    | _ => none
  | _ => none
section
variable {X : Cx}
theorem cDictN : CallR X (.type "dict") (cDN X.F gDict) := by
  intro pins s σ H vs us Q I r ⟨ds, z, hd, hz, k⟩
  unfold gDict at hz
  split at hz
  rotate_left
  · cases hz
  split at hz
  rotate_left
  · cases hz
  rename_i d kvs e
  cases hz
  obtain ⟨v, rfl, rv⟩ := hd.one
  obtain ⟨a, rfl, g⟩ := rv.dat e
  generalize hb : false = b at g
  cases g with
  | n => cases hb
  | k hr rr =>
    exact call_dictD pins s σ H _ us Q I r ⟨a, _, rfl, hr, fun p hp => k p _ hp (same_new hp) ⟨_, _, upd_same, rr.kp (.same (same_new hp)), rfl⟩⟩
/-! {k: v, ..} -/
def pairsF : List (FE × FE) → SS → Option (List (D × D) × SS)
  | [], ss => some ([], ss)
  | (fk, fv) :: r, ss => match fk ss with
    | .no => none
    | .ok k s1 => match fv s1 with
      | .no => none
      | .ok v s2 => match pairsF r s2 with
        | none => none
        | some (l, s3) => some ((k, v) :: l, s3)
def nDsp (ps : List (FE × FE)) : FN := fun ss => match pairsF ps (lend ss) with
  | some (kvs, s2) => if kvs.length ≤ 15 ∧ keysOk kvs = true then .ok (.dct (dputs [] kvs)) (unlend ss s2) else .no
  | none => .no
/-- pairs of values that stand for pairs of data -/
def RepPs (K : Fg) (H : Hp) (ps : List (V × V)) (kvs : List (D × D)) : Prop := RepAll K H (ps.map (·.1)) (kvs.map (·.1)) ∧ RepAll K H (ps.map (·.2)) (kvs.map (·.2))
theorem pairs_read {K : Fg} {fx : Fx} {σ : St} : ∀ {ps : List (FE × FE)} {s1 s2 : SS} {H1 : Hp} {kvs : List (D × D)} {R : List (V × V) → Hp → Prop}, FR K fx s1 σ H1 → pairsF ps s1 = some (kvs, s2) →
    (∀ vs H2, Kp H1 H2 → FR K fx s2 σ H2 → RepPs K H2 vs kvs → R vs H2) → tPairs (ps.map fun p => (tD K p.1, tD K p.2)) σ H1 R
  | [], s1, s2, H1, kvs, R, f, e, k => by
    cases e
    exact k [] H1 (Kp.refl H1) f ⟨.nil, .nil⟩
  | (fk, fv) :: r, s1, s2, H1, kvs, R, f, e, k => by
    unfold pairsF at e
    cases e1 : fk s1 with
    | no => rw [e1] at e; cases e
    | ok kd t1 =>
      rw [e1] at e
      simp only at e
      cases e2 : fv t1 with
      | no => rw [e2] at e; cases e
      | ok vd t2 =>
        rw [e2] at e
        simp only at e
        cases e3 : pairsF r t2 with
        | none => rw [e3] at e; cases e
        | some q =>
          rw [e3] at e
          obtain ⟨l, t3⟩ := q
          cases e
          exact ⟨fx, s1, kd, t1, f, e1, fun v H2 k2 f2 r2 => ⟨fx, t1, vd, t2, f2, e2, fun w H3 k3 f3 r3 => pairs_read f3 e3 fun vs H4 k4 f4 ⟨a4, b4⟩ =>
            k _ H4 (k2.trans (k3.trans k4)) f4 ⟨.cons ((r2.kp k3).kp k4) a4, .cons (r3.kp k4) b4⟩⟩⟩
theorem pairs_keys {K : Fg} {H : Hp} : ∀ {ps : List (V × V)} {kvs : List (D × D)}, RepPs K H ps kvs → keysOk kvs = true → ∃ (ws : List (Key × V)) (fs : List D), ps = ws.map (fun kv => (kV kv.1, kv.2)) ∧ RepAll K H (ws.map (·.2)) fs ∧ kvs = (ws.map fun p => keyD p.1).zip fs ∧ ws.length = kvs.length
  | [], [], _, _ => ⟨[], [], rfl, .nil, rfl, rfl⟩
  | p :: ps, [], h, _ => by cases h.1
  | [], q :: kvs, h, _ => by cases h.1
  | p :: ps, q :: kvs, h, g => by
    obtain ⟨h1, h2⟩ := h
    cases h1 with
    | cons a1 t1 =>
      cases h2 with
      | cons a2 t2 =>
        unfold keysOk at g
        rw [List.all_cons, Bool.and_eq_true] at g
        obtain ⟨ws, fs, e1, e2, e3, e4⟩ := pairs_keys ⟨t1, t2⟩ g.2
        obtain ⟨kq, hk⟩ := keyD_of g.1
        have a1' : Rep K H p.1 q.1 := a1
        rw [hk] at a1'
        have := repK_key a1'
        refine ⟨(kq, p.2) :: ws, q.2 :: fs, ?_, .cons a2 e2, ?_, by simp [e4]⟩
        · rw [e1, List.map_cons, ← this]
        · rw [List.map_cons, List.zip_cons_cons, ← hk, ← e3]
theorem dsp_read {ps : List (FE × FE)} {σ : St} {H : Hp} {Q : VK} (q : tN X.F (nDsp ps) σ H Q) : tDisp (ps.map fun p => (tD X.F p.1, tD X.F p.2)) σ H Q := by
  obtain ⟨fx, ss, o, s3, fr, e, k⟩ := q
  unfold nDsp at e
  split at e
  rotate_left
  · cases e
  rename_i kvs s2 e1
  split at e
  rotate_left
  · cases e
  rename_i hc
  cases e
  intro p hp
  have f1 : FR X.F fx ss σ (upd H p (.dK [])) := fr.new hp
  have nw := fr.newAt hp
  refine pairs_read f1.lend e1 fun vs H2 k2 f2 rp => ?_
  have stay : H2 p = some (.dK []) := f2.rest p _ upd_same fun j z => by
    obtain ⟨s', o', a, b, c⟩ := fxr_some z
    exact nw.2 j s' o' a b c
  obtain ⟨ws, fs, e2, e3, e4, e5⟩ := pairs_keys rp hc.2
  obtain ⟨gs, g1, g2⟩ := merge_rep (K := X.F) (H := H2) (acc := []) (es := []) e3 .nil
  have f3 := f1.unlend f2 k2
  have kk : Kp H2 (upd H2 p (.dK (mergeK [] ws))) := Kp.upd stay loose_dK
  refine ⟨stay, ws, e2, by rw [e5]; exact hc.1, k p _ (((Kp.same (same_new hp)).trans k2).trans kk) (f3.lock ⟨nw.1, fun j s o a b => ?_⟩ stay loose_dK) ⟨mergeK [] ws, gs, upd_same, g1.kp kk, ?_⟩ ⟨nw.1, fun j s o a b => ?_⟩⟩
  · obtain ⟨t', u, c, d⟩ := unlend_old a b
    exact nw.2 j t' u c d
  · rw [e4]
    exact g2
  · obtain ⟨t', u, c, d⟩ := unlend_old a b
    exact nw.2 j t' u c d
theorem xdsp {pos : Pos} {keys : List (Option Expr)} {values : List Expr} {ps : List (FE × FE)} (h : PPs X pos keys values (ps.map fun p => (tD X.F p.1, tD X.F p.2))) (hall : keys.all (·.isSome) = true := by rfl) (hl : keys.length = values.length := by rfl) (h0 : keys ≠ [] := by intro z; cases z)
    (h15 : keys.length ≤ 15 := by decide) : PE X (.Dict keys values pos) (tN X.F (nDsp ps)) :=
  (pe_disp h hall hl h0 h15).imp fun σ H Q q => dsp_read q
theorem pn {pos : Pos} : PPs X pos [] [] (([] : List (FE × FE)).map fun p => (tD X.F p.1, tD X.F p.2)) := pps_nil
theorem pc {pos : Pos} {k v : Expr} {ks : List (Option Expr)} {vs : List Expr} {fk fv : FE} {ps : List (FE × FE)} (hk : PE X k (tD X.F fk)) (hv : PE X v (tD X.F fv)) (hr : PPs X pos ks vs (ps.map fun p => (tD X.F p.1, tD X.F p.2))) :
    PPs X pos (some k :: ks) (v :: vs) (((fk, fv) :: ps).map fun p => (tD X.F p.1, tD X.F p.2)) := pps_cons hk hv hr
end
end Dt

/-! Dt28: a dict of the module's own, texts to ints: d.get(x, e), d[x], x in d. -/
namespace Dt
open PySem PySem.Spec L2
open PyProof.Rows hiding St
abbrev Tab := List (Str × Int)
def tabLook (t : Tab) (x : Str) : Option Int := (t.find? fun p => decide (p.1 = x)).map (·.2)
inductive Ents (P : Params) : List DictEntry → Tab → Prop
  | nil : Ents P [] []
  | cons {h : Int} {x : Str} {i : Int} {t u : Tok} {r : List DictEntry} {q : Tab} : h = PyData.keyHash P x → Ents P r q → Ents P (⟨h, .str x t, .int i u⟩ :: r) ((x, i) :: q)
theorem Ents.lit {P : Params} {es : List DictEntry} {q : Tab} (h : Ents P es q) : PySem.W.KeysLit P es := by
  induction h with
  | nil => trivial
  | cons h _ ih => exact ⟨⟨_, _, rfl, h⟩, ih⟩
theorem Ents.find {P : Params} {es : List DictEntry} {q : Tab} (h : Ents P es q) (x : Str) : match tabLook q x with
    | some i => ∃ t, (es.find? fun e => Value.isStrOf x e.key).map (·.val) = some (.int i t)
    | none => (es.find? fun e => Value.isStrOf x e.key).map (·.val) = none := by
  induction h with
  | nil => rfl
  | @cons h y i t u r q e _ ih =>
    unfold tabLook at ih ⊢
    rw [List.find?_cons, List.find?_cons]
    have he : Value.isStrOf x (.str y t) = decide (y = x) := by
      by_cases c : y = x
      · subst c; simp [Value.isStrOf]
      · simp [Value.isStrOf, c, Ne.symm c]
    simp only [he]
    by_cases c : y = x
    · rw [decide_eq_true c]
      exact ⟨u, rfl⟩
    · rw [decide_eq_false c]
      exact ih
/-- the module's name x holds the dict t -/
def GlT (K : Fg) (mg : Str → Option Value) (x : Str) (t : Tab) : Prop := ∃ a es n, mg x = some (.ref a) ∧ K.k.lookup a = some ⟨.type "dict", none, .dict es n, #[]⟩ ∧ (a == sysModules) = false ∧ Ents K.w.params es.toList t
section
variable {X : Cx} {b c : Expr} {g h : FE} {pos : Pos}
def eTget (t : Tab) (g h : FE) : FE := fun ss => (g ss).bind fun k s1 => (h s1).bind fun e s2 => match k with
  | .str x => .ok (((tabLook t x).map .int).getD e) s2
  | _ => .no
theorem xtget {x : Str} {t : Tab} {px apos cpos : Pos} (m : GlT X.F X.mg x t) (he : PE X b (tD X.F g)) (hf : PE X c (tD X.F h)) (hg : Gl X x := by rfl) (hdb : (x == ("__debug__" : Str)) = false := by decide) (hbase : attributeBase (.Name x px) "get" X.env (eval (.Name x px) X.env) = eval (.Name x px) X.env := by rfl)
    (hfew : ((backTo cpos (starEach [b, c] X.env)).all (fun x => !x.1) && (backToKw cpos (keywordEach [] X.env)).all (fun x => x.1.isSome) && decide (([b, c] : List Expr).length + ([] : List Keyword).length + (if ([] : List Keyword).isEmpty then 0 else 1) < 30)) = true := by rfl)
    (hline : (apos.endLine == cpos.line) = true := by rfl) (htr : backTo cpos (starEach [b, c] X.env) = [(false, eval b X.env), (false, eval c X.env)] := by rfl) :
    PE X (.Call (.Attribute (.Name x px) "get" apos) [b, c] [] cpos) (tD X.F (eTget t g h)) := by
  refine ⟨fun pins s σ H Q I q => ?_⟩
  obtain ⟨a, es, n, hm, hl, low, en⟩ := m
  obtain ⟨fx, ss, z, s9, fr, e, kk⟩ := q
  obtain ⟨k, s2, e2, e⟩ := bind_ok e
  obtain ⟨y, s3, e3, e⟩ := bind_ok e
  split at e
  rotate_left
  · cases e
  rename_i kx _
  cases e
  have hP : PE X (.Name x px) (tC (V.ref a)) := pe_glob hg hm rfl hdb
  refine wpAny_Call_method hbase hfew hline PySem.F.plainAttrs_dict PySem.F.slot_dict_get PySem.F.type_dict_get (thn (hP.run pins s σ H (fun v H1 => v = .ref a ∧ H1 = H) I ⟨rfl, rfl⟩) fun u t1 ⟨v, H1, I1, rv, ev, eH⟩ => ?_)
  subst ev eH
  obtain rfl : u = Value.ref a := rv
  have mp : ∀ {s' : Shared}, X.K.In s'.heap → s'.heap.MapOf (strKind X.prog X.w) a (fun k => findBy Value.isStrOf es k) := fun kin => PySem.W.mapOf_K kin hl en.lit
  refine ⟨(mp I1.kIn).typeIs, fun q eq => ?_, ?_⟩
  · cases eq
    exact ⟨_, I1.kIn _ _ hl, rfl⟩
  rw [htr]
  refine Calls.callWith_builtin rfl (Calls.evalArgs_plain (Calls.spliced_cons (thn (he.run pins t1 σ H1 (fun v H2 => Kp H1 H2 ∧ FR X.F fx s2 σ H2 ∧ Rep X.F H2 v (.str kx)) I1 ⟨fx, ss, .str kx, s2, fr, e2, fun v H2 k2 f2 r2 => ⟨k2, f2, r2⟩⟩) fun iv t2 ⟨w, H2, I2, rw_, k2, f2, r2⟩ =>
    Calls.spliced_cons (thn (hf.run pins t2 σ H2 (fun v H3 => Kp H2 H3 ∧ FR X.F fx s9 σ H3 ∧ Rep X.F H3 v y) I2 ⟨fx, s2, y, s9, f2, e3, fun v H3 k3 f3 r3 => ⟨k3, f3, r3⟩⟩) fun jv t3 ⟨v3, H3, I3, rx, k3, f3, r3⟩ => Calls.spliced_nil ?_))))
  have := r2.strv
  subst this
  obtain ⟨tk, rfl⟩ := rw_
  refine call_meetsIn PySem.F.slot_dict_get (mp I3.kIn).typeIs PySem.F.entry_dict_get (PySem.F.args_dict_get_3 _ _ _) (meets_dict_get_default (strKind X.prog X.w) a (strKind_is X.prog X.w kx tk) low jv) ⟨_, mp I3.kIn, ?_⟩
  have hf := en.find kx
  have hfb : findBy Value.isStrOf es kx = (es.toList.find? fun e => Value.isStrOf kx e.key).map (·.val) := by
    unfold findBy
    rw [Array.find?_toList]
  cases q : tabLook t kx with
  | some i =>
    rw [q] at hf
    obtain ⟨t', hf⟩ := hf
    refine ⟨.int i, H3, I3.tok _, ?_, kk _ _ (k2.trans k3) f3 (by rw [q]; exact .int i)⟩
    rw [hfb, hf]
    exact ⟨t', rfl⟩
  | none =>
    rw [q] at hf
    refine ⟨v3, H3, I3.tok _, ?_, kk _ _ (k2.trans k3) f3 (by rw [q]; exact r3)⟩
    rw [hfb, hf]
    exact rx
end
theorem glt_mk {kk : PySem.W.Frag} {w : World} {h : Heap} {mg : Str → Option Value} {x : Str} {a : Addr} {es : List DictEntry} {n : Nat} {t : Tab} (X : kk.In h) (G : h.Ns mainGlobals mg) (z : PySem.W.nsIn kk mainGlobals x = some (some (.ref a))) (l : kk.lookup a = some ⟨.type "dict", none, .dict es.toArray n, #[]⟩) (low : (a == sysModules) = false) (e : Ents w.params es t) : GlT ⟨kk, w⟩ mg x t :=
  ⟨a, _, n, PySem.W.mg_of X G z, l, low, e⟩
end Dt

/-! Dt29: calls of defs without parameters. -/
namespace Dt
open PySem PySem.Spec L2
open PyProof.Rows hiding St
section
variable {X : Cx} {pos p : Pos} {x : Str} {k : Nat} {F : FnS}
/-- f() -/
def eCall0 (F : FnS) : FE := fun ss => match F [] with
  | some (.imm d, []) => .ok d ss
  | _ => .no
def nCall0 (F : FnS) : FN := fun ss => match F [] with
  | some (.own o, []) => .ok o ss
  | _ => .no
theorem args0 {K : Fg} {σ : St} {H : Hp} : ArgsR K H σ [] [] := .nil
theorem callAt0 {F : FnS} {r : Sl} {ss : SS} (h : F [] = some (r, [])) : callAt F [] ss = some (r, ss) := by
  unfold callAt
  simp [refs, resolve, h, putB]
theorem xc0 (G : Ok X.prog X.F X.mg X.base k x [] F) (hr : Room k X.A) (hg : Gl X x := by rfl) (hdb : (x == ("__debug__" : Str)) = false := by decide) : PE X (.Call (.Name x p) [] [] pos) (tD X.F (eCall0 F)) := by
  obtain ⟨f, fd, G, m, kp, bi⟩ := G
  refine (pe_call0 (E := fun _ _ _ => False) G hr hg m kp bi .nil pass0 hdb).imp fun σ H Q q => ?_
  obtain ⟨fx, ss, d, s3, fr, e, k⟩ := q
  unfold eCall0 at e
  split at e
  · rename_i d2 ec
    cases e
    exact call_read (E := fun _ _ _ => False) rfl (callAt0 ec) fr args0 fun v H' k2 f2 r2 => k v H' k2 f2 r2
  · cases e
theorem xcn0 (G : Ok X.prog X.F X.mg X.base k x [] F) (hr : Room k X.A) (hg : Gl X x := by rfl) (hdb : (x == ("__debug__" : Str)) = false := by decide) : PE X (.Call (.Name x p) [] [] pos) (tN X.F (nCall0 F)) := by
  obtain ⟨f, fd, G, m, kp, bi⟩ := G
  refine (pe_call0 (E := fun _ _ _ => False) G hr hg m kp bi .nil pass0 hdb).imp fun σ H Q q => ?_
  obtain ⟨fx, ss, d, s3, fr, e, k⟩ := q
  unfold nCall0 at e
  split at e
  · rename_i d2 ec
    cases e
    refine call_read (E := fun _ _ _ => False) rfl (callAt0 ec) fr args0 fun v H' k2 f2 r2 => ?_
    obtain ⟨q, rfl, r3, n3⟩ := r2
    exact k q H' k2 f2 r3 n3
  · cases e
end
end Dt

/-! Dt30: s.startswith(x). -/
namespace Dt
open PySem PySem.Spec L2
open PyProof.Rows hiding St
section
variable {X : Cx} {a b : Expr} {fa fb : FE} {pos : Pos}
def gStarts (x : Str) (d : D) : Option D := match d with
  | .str y => some (.bool (Txt.startswith x y))
  | _ => none
theorem mStarts {apos : Pos} (ho : PE X a (tD X.F fa)) (he : PE X b (tD X.F fb)) (hs : starEach [b] X.env = [(false, eval b X.env)] := by rfl) (hbase : attributeBase a "startswith" X.env (eval a X.env) = eval a X.env := by rfl) (hline : (apos.endLine == pos.line) = true := by rfl) :
    PE X (.Call (.Attribute a "startswith" apos) [b] [] pos) (tD X.F (eM1 gStarts fa fb)) := by
  refine m1_read (pe_m1 F.slot_str_startswith F.type_str_startswith mt_startswith ho he hs hbase hline) fun H x v d z Q rv hz k => ?_
  unfold gStarts at hz
  split at hz
  · cases hz
    obtain rfl := rv.strv
    exact ⟨x, _, rfl, rfl, k _ _ (Same.refl H) (.bl _)⟩
  · cases hz
end
end Dt

/-! Dm: the plain side: what the readings compute, by simp. -/
namespace Dm
open PySem L2 Dt
@[simp] theorem q_bind_ok {α β : Type} (a : α) (s : SS) (g : α → SS → Res β) : (Res.ok a s).bind g = g a s := rfl
@[simp] theorem q_bind_no {α β : Type} (g : α → SS → Res β) : (Res.no : Res α).bind g = .no := rfl
@[simp] theorem q_of_some {α : Type} (a : α) (s : SS) : Res.of (some a) s = .ok a s := rfl
@[simp] theorem q_of_none {α : Type} (s : SS) : Res.of (none : Option α) s = .no := rfl
@[simp] theorem q_size : sizeLine = 16777216 := rfl
@[simp] theorem q_eV (i : Nat) (ss : SS) : eV i ss = match ss[i]? with
  | some (.imm d) => .ok d ss
  | _ => .no := rfl
@[simp] theorem q_eC (d : D) (ss : SS) : eC d ss = .ok d ss := rfl
@[simp] theorem q_eOp (g a b) (ss : SS) : eOp g a b ss = (a ss).bind fun x s1 => (b s1).bind fun y s2 => .of (g x y) s2 := rfl
@[simp] theorem q_nOp (g a b) (ss : SS) : nOp g a b ss = (a ss).bind fun x s1 => (b s1).bind fun y s2 => .of (g x y) s2 := rfl
@[simp] theorem q_eUn (g a) (ss : SS) : eUn g a ss = (a ss).bind fun x s1 => .of (g x) s1 := rfl
@[simp] theorem q_eCB (g a) (ss : SS) : eCB g a ss = (a ss).bind fun x s1 => .of (g x) s1 := rfl
@[simp] theorem q_nCB (g a) (ss : SS) : nCB g a ss = (a ss).bind fun x s1 => .of (g x) s1 := rfl
@[simp] theorem q_eM (g a b) (ss : SS) : eM g a b ss = (a ss).bind fun x s1 => (b s1).bind fun y s2 => .of (g x y) s2 := rfl
@[simp] theorem q_eM1 (g a b) (ss : SS) : eM1 g a b ss = (a ss).bind fun x s1 => match x with
  | .str z => (b s1).bind fun y s2 => .of (g z y) s2
  | _ => .no := by
  unfold eM1; rfl
@[simp] theorem q_lNil (ss : SS) : lNil ss = .ok [] ss := rfl
@[simp] theorem q_lCons (a b) (ss : SS) : lCons a b ss = (a ss).bind fun x s1 => (b s1).bind fun y s2 => .ok (x :: y) s2 := rfl
@[simp] theorem q_eTup (a) (ss : SS) : eTup a ss = (a ss).bind fun x s1 => if x.length ≤ sizeLine then .ok (.tuple x) s1 else .no := rfl
@[simp] theorem q_nLst (a) (ss : SS) : nLst a ss = (a ss).bind fun x s1 => if x.length ≤ sizeLine then .ok (.lst x) s1 else .no := rfl
@[simp] theorem q_asB (b : Bool) : asB (.bool b) = some b := rfl
@[simp] theorem q_bOf (a) (ss : SS) : bOf a ss = (a ss).bind fun x s1 => .of (asB x) s1 := rfl
@[simp] theorem q_bAnd (a b) (ss : SS) : bAnd a b ss = (a ss).bind fun x s1 => if x = true then b s1 else .ok false s1 := rfl
@[simp] theorem q_bOr (a b) (ss : SS) : bOr a b ss = (a ss).bind fun x s1 => if x = true then .ok true s1 else b s1 := rfl
@[simp] theorem q_bNot (a) (ss : SS) : bNot a ss = (a ss).bind fun x s1 => .ok (!x) s1 := rfl
@[simp] theorem q_bYes (ss : SS) : bYes ss = .ok true ss := rfl
@[simp] theorem q_eAnd (a b) (ss : SS) : eAnd a b ss = (a ss).bind fun x s1 => match x with
  | .bool true => b s1
  | .bool false => .ok (.bool false) s1
  | _ => .no := by
  unfold eAnd; congr 1
@[simp] theorem q_eOr (a b) (ss : SS) : eOr a b ss = (a ss).bind fun x s1 => match x with
  | .bool true => .ok (.bool true) s1
  | .bool false => b s1
  | _ => .no := by
  unfold eOr; congr 1
@[simp] theorem q_eNot (a) (ss : SS) : eNot a ss = (a ss).bind fun x s1 => match x with
  | .bool b => .ok (.bool (!b)) s1
  | _ => .no := by
  unfold eNot; congr 1
@[simp] theorem q_eIf (c a b) (ss : SS) : eIf c a b ss = (c ss).bind fun x s1 => if x = true then a s1 else b s1 := rfl
@[simp] theorem q_eFz (f : FN) (ss : SS) : eFz f ss = (f ss).bind fun o s1 => .ok o.toD s1 := rfl
@[simp] theorem q_toD_l (ds) : O.toD (.lst ds) = .list ds := rfl
@[simp] theorem q_toD_d (ds) : O.toD (.dct ds) = .dict ds := rfl
@[simp] theorem q_put_o (o u) : (Sl.own o).put u = .own u := rfl
@[simp] theorem q_put_b (o u) : (Sl.bor o).put u = .bor u := rfl
@[simp] theorem q_obj_o (o) : (Sl.own o).obj = some o := rfl
@[simp] theorem q_obj_b (o) : (Sl.bor o).obj = some o := rfl
@[simp] theorem q_obj_i (o) : (Sl.imm o).obj = none := rfl
@[simp] theorem q_obj_u : (Sl.un).obj = none := rfl
@[simp] theorem q_sNil (ss : SS) : sNil ss = .nx ss := rfl
@[simp] theorem q_sSeq (a b) (ss : SS) : sSeq a b ss = (a ss).then b := rfl
@[simp] theorem q_then_nx (ss g) : (Out.nx ss).then g = g ss := rfl
@[simp] theorem q_then_rt (r ss g) : (Out.rt r ss).then g = .rt r ss := rfl
@[simp] theorem q_then_bk (ss g) : (Out.bk ss).then g = .bk ss := rfl
@[simp] theorem q_then_ct (ss g) : (Out.ct ss).then g = .ct ss := rfl
@[simp] theorem q_then_no (g) : (Out.no).then g = .no := rfl
@[simp] theorem q_sIf (c a b) (ss : SS) : sIf c a b ss = match c ss with
  | .ok x s1 => if x = true then a s1 else b s1
  | .no => .no := rfl
@[simp] theorem q_sRet (f) (ss : SS) : sRet f ss = match f ss with
  | .ok d s1 => .rt (.imm d) s1
  | .no => .no := rfl
@[simp] theorem q_sRetN (f) (ss : SS) : sRetN f ss = match f ss with
  | .ok d s1 => .rt (.own d) s1
  | .no => .no := rfl
@[simp] theorem q_sRet0 (ss : SS) : sRet0 ss = .rt (.imm .none) ss := rfl
@[simp] theorem q_sExpr (f) (ss : SS) : sExpr f ss = match f ss with
  | .ok _ s1 => .nx s1
  | .no => .no := rfl
@[simp] theorem q_sBk (ss : SS) : sBk ss = .bk ss := rfl
@[simp] theorem q_sCt (ss : SS) : sCt ss = .ct ss := rfl
@[simp] theorem q_gN (i d) (ss : SS) : Dt.gN i d ss = if i < ss.length then some (ss.set i (.imm d)) else none := rfl
@[simp] theorem q_gNil (ss : SS) : Dt.gNil [] ss = some ss := rfl
@[simp] theorem q_gCons (g h d r) (ss : SS) : Dt.gCons g h (d :: r) ss = (g d ss).bind fun s1 => h r s1 := by
  unfold Dt.gCons; cases e : g d ss <;> simp [e]
@[simp] theorem q_gTup (n g ds) (ss : SS) : gTup n g (.tuple ds) ss = if ds.length = n then g ds ss else none := rfl
@[simp] theorem q_gLst (n g ds) (ss : SS) : Dt.gLst n g (.list ds) ss = if ds.length = n then g ds ss else none := rfl
@[simp] theorem q_sAsg (f g) (ss : SS) : sAsg f g ss = match f ss with
  | .ok d s1 => match g d s1 with
    | some s2 => .nx s2
    | none => .no
  | .no => .no := rfl
@[simp] theorem q_sOwn (f i) (ss : SS) : sOwn f i ss = match f ss with
  | .ok o s1 => if i < s1.length then .nx (s1.set i (.own o)) else .no
  | .no => .no := rfl
@[simp] theorem q_sFor (src g b) (ss : SS) : sFor src g b ss = match src ss with
  | .ok ds s1 => loopF g b ds s1
  | .no => .no := rfl
@[simp] theorem q_lSeq (f) (ss : SS) : lSeq f ss = (f ss).bind fun d s1 => .of (itemsOf d) s1 := rfl
@[simp] theorem q_items_l (ds) : itemsOf (.list ds) = some ds := rfl
@[simp] theorem q_items_t (ds) : itemsOf (.tuple ds) = some ds := rfl
@[simp] theorem q_objAt (ss : SS) (i) : objAt ss i = (ss[i]?).bind Sl.obj := rfl
@[simp] theorem q_eVF (i : Nat) (ss : SS) : eVF i ss = match ss[i]? with
  | some (.imm d) => .ok d ss
  | some (.own o) => .ok o.toD (ss.set i (.imm o.toD))
  | _ => .no := rfl
@[simp] theorem q_sApp (i f) (ss : SS) : sApp i f ss = match objAt ss i with
  | some (.lst _) => match f ss with
    | .ok d s1 => match s1[i]? with
      | some s => match s.obj with
        | some (.lst ds) => if ds.length < sizeLine then .nx (s1.set i (s.put (.lst (ds ++ [d])))) else .no
        | _ => .no
      | none => .no
    | .no => .no
  | _ => .no := rfl
@[simp] theorem q_sSetL (i fi fv) (ss : SS) : sSetL i fi fv ss = match fv ss with
  | .no => .no
  | .ok d s1 => match objAt s1 i with
    | some (.lst _) => match fi s1 with
      | .ok (.int n) s2 => match s2[i]? with
        | some s => match s.obj with
          | some (.lst ds) => match ixN ds.length n with
            | some j => .nx (s2.set i (s.put (.lst (ds.set j d))))
            | none => .no
          | _ => .no
        | none => .no
      | _ => .no
    | _ => .no := rfl
@[simp] theorem q_eOix (i f) (ss : SS) : eOix i f ss = match objAt ss i with
  | some _ => (f ss).bind fun d s1 => match objAt s1 i, d with
    | some (.lst ds), .int n => .of (atI ds n) s1
    | _, _ => .no
  | none => .no := rfl
@[simp] theorem q_eOlen (i) (ss : SS) : eOlen i ss = match objAt ss i with
  | some (.lst ds) => .ok (.int ds.length) ss
  | _ => .no := rfl
@[simp] theorem q_oNone (ss : SS) : oNone ss = .ok none ss := rfl
@[simp] theorem q_eSl (f lo hi) (ss : SS) : eSl f lo hi ss = (f ss).bind fun d s1 => (lo s1).bind fun l s2 => (hi s2).bind fun h s3 => .of (dSl d l h) s3 := rfl
@[simp] theorem q_add (i j) : dAdd (.int i) (.int j) = some (.int (i + j)) := rfl
@[simp] theorem q_addl (xs ys) : dAdd (.list xs) (.list ys) = fits (xs.length + ys.length) (.list (xs ++ ys)) := rfl
@[simp] theorem q_addt (xs ys) : dAdd (.tuple xs) (.tuple ys) = fits (xs.length + ys.length) (.tuple (xs ++ ys)) := rfl
@[simp] theorem q_adds (x y) : dAdd (.str x) (.str y) = fits (x.length + y.length) (.str (x ++ y)) := rfl
@[simp] theorem q_fits (n d) : fits n d = if n ≤ sizeLine then some d else none := rfl
@[simp] theorem q_sub (i j) : dSub (.int i) (.int j) = some (.int (i - j)) := rfl
@[simp] theorem q_div (i j) : dDiv (.int i) (.int j) = if 0 < j ∧ j.natAbs.log2 < 9000 then some (.int (i / j)) else none := rfl
@[simp] theorem q_mod (i j) : dMod (.int i) (.int j) = if 0 < j then some (.int (i % j)) else none := rfl
@[simp] theorem q_neg (i) : dNeg (.int i) = some (.int (-i)) := rfl
@[simp] theorem q_mul (i j) : dMul (.int i) (.int j) = if i.natAbs.log2 + j.natAbs.log2 < 1000000 then some (.int (i * j)) else none := rfl
@[simp] theorem q_pow (i j) : dPow (.int i) (.int j) = if 0 ≤ j ∧ j ≤ 1000000 ∧ i.natAbs < 2 ^ 64 then some (.int (i ^ j.toNat)) else none := rfl
@[simp] theorem q_eq (i j) : dEq (.int i) (.int j) = some (.bool (i == j)) := rfl
@[simp] theorem q_ne (i j) : dNe (.int i) (.int j) = some (.bool (!(i == j))) := rfl
@[simp] theorem q_eqs (i j) : dEq (.str i) (.str j) = some (.bool (i == j)) := rfl
@[simp] theorem q_nes (i j) : dNe (.str i) (.str j) = some (.bool (!(i == j))) := rfl
@[simp] theorem q_lt (i j) : dLt (.int i) (.int j) = some (.bool (decide (i < j))) := rfl
@[simp] theorem q_le (i j) : dLe (.int i) (.int j) = some (.bool (decide (i ≤ j))) := rfl
@[simp] theorem q_gt (i j) : dGt (.int i) (.int j) = some (.bool (decide (j < i))) := rfl
@[simp] theorem q_ge (i j) : dGe (.int i) (.int j) = some (.bool (decide (j ≤ i))) := rfl
@[simp] theorem q_ixl (ds i) : dIx (.list ds) (.int i) = atI ds i := rfl
@[simp] theorem q_ixt (ds i) : dIx (.tuple ds) (.int i) = atI ds i := rfl
@[simp] theorem q_is_n (T) : dIs T .none = some (.bool false) := rfl
@[simp] theorem q_is_b (T b) : dIs T (.bool b) = some (.bool (T == "int" || T == "bool")) := rfl
@[simp] theorem q_is_i (T i) : dIs T (.int i) = some (.bool (T == "int")) := rfl
@[simp] theorem q_is_s (T x) : dIs T (.str x) = some (.bool (T == "str")) := rfl
@[simp] theorem q_is_l (T ds) : dIs T (.list ds) = some (.bool (T == "list")) := rfl
@[simp] theorem q_is_t (T ds) : dIs T (.tuple ds) = some (.bool (T == "tuple")) := rfl
@[simp] theorem q_eCh (g h a b c) (ss : SS) : eCh g h a b c ss = (a ss).bind fun x s1 => (b s1).bind fun y s2 => (Res.of (g x y) s2).bind fun z s3 => match z with
  | .bool true => (c s3).bind fun w s4 => .of (h y w) s4
  | .bool false => .ok (.bool false) s3
  | _ => .no := rfl
@[simp] theorem q_len_l (ds) : gLen [.list ds] = some (.int ds.length) := rfl
@[simp] theorem q_len_t (ds) : gLen [.tuple ds] = some (.int ds.length) := rfl
@[simp] theorem q_all (ds) : gAll [.list ds] = (ds.mapM asB).map fun bs => .bool (bs.all id) := rfl
@[simp] theorem q_any (ds) : gAny [.list ds] = (ds.mapM asB).map fun bs => .bool (bs.any id) := rfl
@[simp] theorem q_int_b (b) : gInt [.bool b] = some (.int (if b = true then 1 else 0)) := rfl
@[simp] theorem q_int_i (b) : gInt [.int b] = some (.int b) := rfl
@[simp] theorem q_list_l (ds) : gList [.list ds] = some (.lst ds) := rfl
@[simp] theorem q_list_t (ds) : gList [.tuple ds] = some (.lst ds) := rfl
@[simp] theorem q_oSome (f) (ss : SS) : oSome f ss = (f ss).bind fun d s1 => match d with
  | .int i => .ok (some i) s1
  | _ => .no := rfl
@[simp] theorem q_lRng1 (f) (ss : SS) : lRng1 f ss = (f ss).bind fun d s1 => match d with
  | [.int j] => if small j = true then .ok (rangeD 0 j.toNat) s1 else .no
  | _ => .no := rfl
@[simp] theorem q_eRev (f) (ss : SS) : eRev f ss = (f ss).bind fun d s1 => match d with
  | .tuple ds => .ok (.tuple ds.reverse) s1
  | .str z => if z.length ≤ sizeLine then .ok (.str (revS z)) s1 else .no
  | _ => .no := rfl
@[simp] theorem q_nM1 (g a b) (ss : SS) : nM1 g a b ss = (a ss).bind fun x s1 => match x with
  | .str x => (b s1).bind fun y s2 => .of (g x y) s2
  | _ => .no := rfl
@[simp] theorem q_sl_l (ds lo hi) : dSl (.list ds) lo hi = some (.list (cutD ds lo hi)) := rfl
@[simp] theorem q_sl_t (ds lo hi) : dSl (.tuple ds) lo hi = some (.tuple (cutD ds lo hi)) := rfl
@[simp] theorem q_max (i j) : gMax [.int i, .int j] = some (.int (if j > i then j else i)) := rfl
@[simp] theorem q_min (i j) : gMin [.int i, .int j] = some (.int (if j < i then j else i)) := rfl
@[simp] theorem q_tup_l (ds) : gTuple [.list ds] = some (.tuple ds) := rfl
@[simp] theorem q_tup_t (ds) : gTuple [.tuple ds] = some (.tuple ds) := rfl
@[simp] theorem q_sum (ds) : gSum [.list ds] = (ds.mapM asI).map fun bs => .int bs.sum := rfl
theorem at_get {α : Type} {xs : List α} {n : Nat} {x : α} (h : xs[n]? = some x) : atI xs (n : Int) = some x := by
  have hn := (List.getElem?_eq_some_iff.mp h).1
  unfold atI ixN
  rw [if_pos (by omega), if_pos (by omega)]
  simpa using h
theorem at_none {α : Type} {xs : List α} {n : Nat} (h : xs.length ≤ n) : atI xs (n : Int) = none := by
  unfold atI ixN
  rw [if_pos (by omega), if_neg (by omega)]
  rfl
@[simp] theorem q_at0 {α : Type} (x0 : α) (xs : List α) : atI (x0 :: xs) 0 = some x0 := at_get (n := 0) rfl
@[simp] theorem q_at1 {α : Type} (x0 x1 : α) (xs : List α) : atI (x0 :: x1 :: xs) 1 = some x1 := at_get (n := 1) rfl
@[simp] theorem q_at2 {α : Type} (x0 x1 x2 : α) (xs : List α) : atI (x0 :: x1 :: x2 :: xs) 2 = some x2 := at_get (n := 2) rfl
@[simp] theorem q_at3 {α : Type} (x0 x1 x2 x3 : α) (xs : List α) : atI (x0 :: x1 :: x2 :: x3 :: xs) 3 = some x3 := at_get (n := 3) rfl
@[simp] theorem q_at4 {α : Type} (x0 x1 x2 x3 x4 : α) (xs : List α) : atI (x0 :: x1 :: x2 :: x3 :: x4 :: xs) 4 = some x4 := at_get (n := 4) rfl
@[simp] theorem q_at5 {α : Type} (x0 x1 x2 x3 x4 x5 : α) (xs : List α) : atI (x0 :: x1 :: x2 :: x3 :: x4 :: x5 :: xs) 5 = some x5 := at_get (n := 5) rfl
@[simp] theorem q_at6 {α : Type} (x0 x1 x2 x3 x4 x5 x6 : α) (xs : List α) : atI (x0 :: x1 :: x2 :: x3 :: x4 :: x5 :: x6 :: xs) 6 = some x6 := at_get (n := 6) rfl
@[simp] theorem q_at7 {α : Type} (x0 x1 x2 x3 x4 x5 x6 x7 : α) (xs : List α) : atI (x0 :: x1 :: x2 :: x3 :: x4 :: x5 :: x6 :: x7 :: xs) 7 = some x7 := at_get (n := 7) rfl
@[simp] theorem q_atL {α : Type} (x : α) (xs : List α) : atI (xs ++ [x]) (-1) = some x := by
  unfold atI ixN
  rw [if_neg (by decide), if_pos (by simp; omega)]
  have : ((-1 : Int) + ((xs ++ [x]).length : Nat)).toNat = xs.length := by rw [List.length_append, List.length_singleton]; omega
  rw [Option.bind_some, this, List.getElem?_append_right (Nat.le_refl _)]
  simp
@[simp] theorem q_ixL {α : Type} (x : α) (xs : List α) : ixN (xs ++ [x]).length (-1) = some xs.length := by
  unfold ixN
  rw [if_neg (by decide), if_pos (by simp; omega), List.length_append, List.length_singleton]
  congr 1
  omega
theorem ix_nat {n k : Nat} (h : k < n) : ixN n (k : Int) = some k := by
  unfold ixN
  rw [if_pos (by omega), if_pos (by omega)]
  rfl
theorem log_lt {x : Int} (h : x.natAbs < 2 ^ 64) : x.natAbs.log2 < 64 := by
  by_cases h0 : x.natAbs = 0
  · rw [h0]; decide
  · exact (Nat.log2_lt h0).mpr h
theorem q_log9 {n : Nat} (h : n < 18446744073709551616) : n.log2 < 9000 := by
  by_cases h0 : n = 0
  · rw [h0]; decide
  · have : n.log2 < 64 := (Nat.log2_lt h0).mpr h
    omega
@[simp] theorem q_log {n : Nat} (h : n < 18446744073709551616) : (n.log2 < 9000) = True := eq_true (q_log9 h)
theorem mul_ok {i j : Int} (h1 : i.natAbs < 2 ^ 64) (h2 : j.natAbs < 2 ^ 64) : i.natAbs.log2 + j.natAbs.log2 < 1000000 := by
  have := log_lt h1
  have := log_lt h2
  omega
@[simp] theorem q_mulok {i j : Int} (h1 : i.natAbs < 18446744073709551616) (h2 : j.natAbs < 18446744073709551616) : (i.natAbs.log2 + j.natAbs.log2 < 1000000) = True := eq_true (mul_ok h1 h2)
theorem mul_int {i j : Int} (h1 : i.natAbs < 2 ^ 64) (h2 : j.natAbs < 2 ^ 64) : dMul (.int i) (.int j) = some (.int (i * j)) := by
  rw [q_mul, if_pos (mul_ok h1 h2)]
theorem div_int {i j : Int} (h1 : 0 < j) (h2 : j.natAbs < 2 ^ 64) : dDiv (.int i) (.int j) = some (.int (i / j)) := by
  rw [q_div, if_pos ⟨h1, Nat.lt_trans (log_lt h2) (by decide)⟩]
theorem mod_int {i j : Int} (h1 : 0 < j) : dMod (.int i) (.int j) = some (.int (i % j)) := by
  rw [q_mod, if_pos h1]
/-! ### calls -/
def ev1 (F : FnS) (a : D) : Option D := match F [.imm a] with
  | some (.imm r, [_]) => some r
  | _ => none
def ev2 (F : FnS) (a b : D) : Option D := match F [.imm a, .imm b] with
  | some (.imm r, [_, _]) => some r
  | _ => none
def ev3 (F : FnS) (a b c : D) : Option D := match F [.imm a, .imm b, .imm c] with
  | some (.imm r, [_, _, _]) => some r
  | _ => none
def ev4 (F : FnS) (a b c d : D) : Option D := match F [.imm a, .imm b, .imm c, .imm d] with
  | some (.imm r, [_, _, _, _]) => some r
  | _ => none
def nv1 (F : FnS) (a : D) : Option O := match F [.imm a] with
  | some (.own r, [_]) => some r
  | _ => none
def nv2 (F : FnS) (a b : D) : Option O := match F [.imm a, .imm b] with
  | some (.own r, [_, _]) => some r
  | _ => none
def rv1 (F : FnS) (o : O) : Option (D × O) := match F [.bor o] with
  | some (.imm r, [.bor u]) => some (r, u)
  | _ => none
def rv2 (F : FnS) (o : O) (a : D) : Option (D × O) := match F [.bor o, .imm a] with
  | some (.imm r, [.bor u, _]) => some (r, u)
  | _ => none
def rv3 (F : FnS) (o : O) (a b : D) : Option (D × O) := match F [.bor o, .imm a, .imm b] with
  | some (.imm r, [.bor u, _, _]) => some (r, u)
  | _ => none
def fin (n : Nat) : Out → Option D
  | .rt (.imm r) ss => if n ≤ ss.length then some r else none
  | .nx ss => if n ≤ ss.length then some .none else none
  | _ => none
def finN (n : Nat) : Out → Option O
  | .rt (.own r) ss => if n ≤ ss.length then some r else none
  | _ => none
def finR (n : Nat) : Out → Option (D × O)
  | .rt (.imm r) (.bor u :: ss) => if n ≤ ss.length then some (r, u) else none
  | .nx (.bor u :: ss) => if n ≤ ss.length then some (.none, u) else none
  | _ => none
@[simp] theorem q_fin_rt (n r ss) : fin n (.rt (.imm r) ss) = if n ≤ ss.length then some r else none := rfl
@[simp] theorem q_fin_nx (n ss) : fin n (.nx ss) = if n ≤ ss.length then some .none else none := rfl
@[simp] theorem q_fin_no (n) : fin n .no = none := rfl
@[simp] theorem q_finN_rt (n r ss) : finN n (.rt (.own r) ss) = if n ≤ ss.length then some r else none := rfl
@[simp] theorem q_finN_no (n) : finN n .no = none := rfl
@[simp] theorem q_finR_rt (n r u ss) : finR n (.rt (.imm r) (.bor u :: ss)) = if n ≤ ss.length then some (r, u) else none := rfl
@[simp] theorem q_finR_nx (n u ss) : finR n (.nx (.bor u :: ss)) = if n ≤ ss.length then some (.none, u) else none := rfl
@[simp] theorem q_finR_no (n) : finR n .no = none := rfl
theorem q_ev1 (n b a) : ev1 (callF n b) a = fin 1 (b (.imm a :: List.replicate (n - 1) .un)) := by
  unfold ev1 callF
  simp only [List.cons_append, List.nil_append, List.length_cons, List.length_nil, Nat.zero_add, Nat.reduceAdd]
  generalize b _ = o
  cases o with
  | rt r ss => rcases ss with _ | ⟨x, ss⟩ <;> cases r <;> simp [fin]
  | nx ss => rcases ss with _ | ⟨x, ss⟩ <;> simp [fin]
  | _ => rfl
theorem q_ev2 (n b a c) : ev2 (callF n b) a c = fin 2 (b (.imm a :: .imm c :: List.replicate (n - 2) .un)) := by
  unfold ev2 callF
  simp only [List.cons_append, List.nil_append, List.length_cons, List.length_nil, Nat.zero_add, Nat.reduceAdd]
  generalize b _ = o
  cases o with
  | rt r ss => rcases ss with _ | ⟨x, _ | ⟨y, ss⟩⟩ <;> cases r <;> simp [fin]
  | nx ss => rcases ss with _ | ⟨x, _ | ⟨y, ss⟩⟩ <;> simp [fin]
  | _ => rfl
theorem q_ev3 (n b a c d) : ev3 (callF n b) a c d = fin 3 (b (.imm a :: .imm c :: .imm d :: List.replicate (n - 3) .un)) := by
  unfold ev3 callF
  simp only [List.cons_append, List.nil_append, List.length_cons, List.length_nil, Nat.zero_add, Nat.reduceAdd]
  generalize b _ = o
  cases o with
  | rt r ss => rcases ss with _ | ⟨x, _ | ⟨y, _ | ⟨z, ss⟩⟩⟩ <;> cases r <;> simp [fin]
  | nx ss => rcases ss with _ | ⟨x, _ | ⟨y, _ | ⟨z, ss⟩⟩⟩ <;> simp [fin]
  | _ => rfl
theorem q_nv1 (n b a) : nv1 (callF n b) a = finN 1 (b (.imm a :: List.replicate (n - 1) .un)) := by
  unfold nv1 callF
  simp only [List.cons_append, List.nil_append, List.length_cons, List.length_nil, Nat.zero_add, Nat.reduceAdd]
  generalize b _ = o
  cases o with
  | rt r ss => rcases ss with _ | ⟨x, ss⟩ <;> cases r <;> simp [finN]
  | nx ss => rcases ss with _ | ⟨x, ss⟩ <;> simp [finN]
  | _ => rfl
theorem q_nv2 (n b a c) : nv2 (callF n b) a c = finN 2 (b (.imm a :: .imm c :: List.replicate (n - 2) .un)) := by
  unfold nv2 callF
  simp only [List.cons_append, List.nil_append, List.length_cons, List.length_nil, Nat.zero_add, Nat.reduceAdd]
  generalize b _ = o
  cases o with
  | rt r ss => rcases ss with _ | ⟨x, _ | ⟨y, ss⟩⟩ <;> cases r <;> simp [finN]
  | nx ss => rcases ss with _ | ⟨x, _ | ⟨y, ss⟩⟩ <;> simp [finN]
  | _ => rfl
theorem q_rv1 (n b a) : rv1 (callF n b) a = finR 0 (b (.bor a :: List.replicate (n - 1) .un)) := by
  unfold rv1 callF
  simp only [List.cons_append, List.nil_append, List.length_cons, List.length_nil, Nat.zero_add, Nat.reduceAdd]
  generalize b _ = o
  cases o with
  | rt r ss => rcases ss with _ | ⟨_ | _ | _ | _, ss⟩ <;> cases r <;> simp [finR]
  | nx ss => rcases ss with _ | ⟨_ | _ | _ | _, ss⟩ <;> simp [finR]
  | _ => rfl
theorem q_rv2 (n b a c) : rv2 (callF n b) a c = finR 1 (b (.bor a :: .imm c :: List.replicate (n - 2) .un)) := by
  unfold rv2 callF
  simp only [List.cons_append, List.nil_append, List.length_cons, List.length_nil, Nat.zero_add, Nat.reduceAdd]
  generalize b _ = o
  cases o with
  | rt r ss => rcases ss with _ | ⟨_ | _ | _ | _, _ | ⟨y, ss⟩⟩ <;> cases r <;> simp [finR]
  | nx ss => rcases ss with _ | ⟨_ | _ | _ | _, _ | ⟨y, ss⟩⟩ <;> simp [finR]
  | _ => rfl
@[simp] theorem q_c1 (F : FnS) (a : FE) (ss : SS) : eCall F (aCons a aNil) ss = (a ss).bind fun x s1 => Res.of (ev1 F x) s1 := by
  unfold eCall aCons
  cases a ss with
  | no => rfl
  | ok x s1 =>
    simp only [q_bind_ok, aNil]
    unfold callAt ev1
    simp only [refs, List.nodup_nil, if_true, resolve, Option.map_some, Option.bind_some]
    cases e : F [.imm x] with
    | none => rfl
    | some p =>
      obtain ⟨r, _ | ⟨y, _ | ⟨z, t⟩⟩⟩ := p <;> cases r <;> rfl
@[simp] theorem q_c2 (F : FnS) (a b : FE) (ss : SS) : eCall F (aCons a (aCons b aNil)) ss = (a ss).bind fun x s1 => (b s1).bind fun y s2 => Res.of (ev2 F x y) s2 := by
  unfold eCall aCons
  cases a ss with
  | no => rfl
  | ok x s1 =>
    simp only [q_bind_ok, aNil]
    cases b s1 with
    | no => rfl
    | ok y s2 =>
      simp only [q_bind_ok]
      unfold callAt ev2
      simp only [refs, List.nodup_nil, if_true, resolve, Option.map_some, Option.bind_some]
      cases e : F [.imm x, .imm y] with
      | none => rfl
      | some p =>
        obtain ⟨r, _ | ⟨y, _ | ⟨z, _ | ⟨_, t⟩⟩⟩⟩ := p <;> cases r <;> rfl
@[simp] theorem q_c3 (F : FnS) (a b c : FE) (ss : SS) : eCall F (aCons a (aCons b (aCons c aNil))) ss = (a ss).bind fun x s1 => (b s1).bind fun y s2 => (c s2).bind fun z s3 => Res.of (ev3 F x y z) s3 := by
  unfold eCall aCons
  cases a ss with
  | no => rfl
  | ok x s1 =>
    simp only [q_bind_ok, aNil]
    cases b s1 with
    | no => rfl
    | ok y s2 =>
      simp only [q_bind_ok]
      cases c s2 with
      | no => rfl
      | ok z s3 =>
        simp only [q_bind_ok]
        unfold callAt ev3
        simp only [refs, List.nodup_nil, if_true, resolve, Option.map_some, Option.bind_some]
        cases e : F [.imm x, .imm y, .imm z] with
        | none => rfl
        | some p =>
          obtain ⟨r, _ | ⟨y, _ | ⟨z, _ | ⟨_, _ | ⟨_, t⟩⟩⟩⟩⟩ := p <;> cases r <;> rfl
@[simp] theorem q_n1 (F : FnS) (a : FE) (ss : SS) : nCall F (aCons a aNil) ss = (a ss).bind fun x s1 => Res.of (nv1 F x) s1 := by
  unfold nCall aCons
  cases a ss with
  | no => rfl
  | ok x s1 =>
    simp only [q_bind_ok, aNil]
    unfold callAt nv1
    simp only [refs, List.nodup_nil, if_true, resolve, Option.map_some, Option.bind_some]
    cases e : F [.imm x] with
    | none => rfl
    | some p =>
      obtain ⟨r, _ | ⟨y, _ | ⟨z, t⟩⟩⟩ := p <;> cases r <;> rfl
@[simp] theorem q_n2 (F : FnS) (a b : FE) (ss : SS) : nCall F (aCons a (aCons b aNil)) ss = (a ss).bind fun x s1 => (b s1).bind fun y s2 => Res.of (nv2 F x y) s2 := by
  unfold nCall aCons
  cases a ss with
  | no => rfl
  | ok x s1 =>
    simp only [q_bind_ok, aNil]
    cases b s1 with
    | no => rfl
    | ok y s2 =>
      simp only [q_bind_ok]
      unfold callAt nv2
      simp only [refs, List.nodup_nil, if_true, resolve, Option.map_some, Option.bind_some]
      cases e : F [.imm x, .imm y] with
      | none => rfl
      | some p =>
        obtain ⟨r, _ | ⟨y, _ | ⟨z, _ | ⟨_, t⟩⟩⟩⟩ := p <;> cases r <;> rfl
@[simp] theorem q_r1 (F : FnS) (i : Nat) (ss : SS) : eCall F (aRef i aNil) ss = match ss[i]? with
  | some (.own o) => (match rv1 F o with | some (d, u) => .ok d (ss.set i (.own u)) | none => .no)
  | some (.bor o) => (match rv1 F o with | some (d, u) => .ok d (ss.set i (.bor u)) | none => .no)
  | _ => .no := by
  unfold eCall aRef aNil
  cases h : ss[i]? with
  | none => rfl
  | some s =>
    cases s with
    | un => rfl
    | imm d => rfl
    | own o =>
      simp only [Option.bind_some, q_obj_o, q_bind_ok]
      unfold callAt rv1
      simp only [refs, List.nodup_cons, List.nodup_nil, List.not_mem_nil, not_false_eq_true, and_self, if_true, resolve, h, Option.bind_some, q_obj_o, Option.map_some]
      cases e : F [.bor o] with
      | none => rfl
      | some p =>
        obtain ⟨r, _ | ⟨_ | _ | _ | _, _ | ⟨z, t⟩⟩⟩ := p <;> cases r <;> simp [putB, h]
    | bor o =>
      simp only [Option.bind_some, q_obj_b, q_bind_ok]
      unfold callAt rv1
      simp only [refs, List.nodup_cons, List.nodup_nil, List.not_mem_nil, not_false_eq_true, and_self, if_true, resolve, h, Option.bind_some, q_obj_b, Option.map_some]
      cases e : F [.bor o] with
      | none => rfl
      | some p =>
        obtain ⟨r, _ | ⟨_ | _ | _ | _, _ | ⟨z, t⟩⟩⟩ := p <;> cases r <;> simp [putB, h]
theorem q_r2 (F : FnS) (i : Nat) (a : FE) (ss : SS) : eCall F (aRef i (aCons a aNil)) ss = match (ss[i]?).bind Sl.obj with
  | some _ => (a ss).bind fun x s1 => (match s1[i]? with
    | some (.own o) => (match rv2 F o x with | some (d, u) => .ok d (s1.set i (.own u)) | none => .no)
    | some (.bor o) => (match rv2 F o x with | some (d, u) => .ok d (s1.set i (.bor u)) | none => .no)
    | _ => .no)
  | none => .no := by
  unfold eCall aRef aCons aNil
  cases h0 : (ss[i]?).bind Sl.obj with
  | none => rfl
  | some o0 =>
    simp only
    cases a ss with
    | no => rfl
    | ok d s1 =>
      simp only [q_bind_ok]
      unfold callAt rv2
      simp only [refs, List.nodup_cons, List.nodup_nil, List.not_mem_nil, not_false_eq_true, and_self, if_true, resolve, Option.map_some]
      cases h : s1[i]? with
      | none => rfl
      | some s =>
        cases s with
        | un => rfl
        | imm d => rfl
        | own o =>
          simp only [Option.bind_some, q_obj_o]
          cases e : F [.bor o, .imm d] with
          | none => rfl
          | some p =>
            obtain ⟨r, _ | ⟨_ | _ | _ | _, _ | ⟨z, _ | ⟨_, t⟩⟩⟩⟩ := p <;> cases r <;> simp [putB, h]
        | bor o =>
          simp only [Option.bind_some, q_obj_b]
          cases e : F [.bor o, .imm d] with
          | none => rfl
          | some p =>
            obtain ⟨r, _ | ⟨_ | _ | _ | _, _ | ⟨z, _ | ⟨_, t⟩⟩⟩⟩ := p <;> cases r <;> simp [putB, h]
/-! ### loops, comprehensions -/
theorem loop_fold {α β : Type} {g : GF} {b : FS} (enc : α → D) (f : β → α → β) (R : β → SS → Prop) (C : α → Prop) (h : ∀ s ss x, R s ss → C x → ∃ s1 s2, g (enc x) ss = some s1 ∧ b s1 = .nx s2 ∧ R (f s x) s2) :
    ∀ (xs : List α) (s : β) (ss : SS), R s ss → (∀ x ∈ xs, C x) → ∃ s2, loopF g b (xs.map enc) ss = .nx s2 ∧ R (xs.foldl f s) s2
  | [], s, ss, r, _ => ⟨ss, rfl, r⟩
  | x :: xs, s, ss, r, c => by
    obtain ⟨s1, s2, h1, h2, h3⟩ := h s ss x r (c x List.mem_cons_self)
    obtain ⟨s3, h4, h5⟩ := loop_fold enc f R C h xs (f s x) s2 h3 fun y hy => c y (List.mem_cons_of_mem _ hy)
    refine ⟨s3, ?_, h5⟩
    rw [List.map_cons]
    unfold loopF
    rw [h1]
    simp only [h2]
    exact h4
theorem loop_rest {α β : Type} {g : GF} {b : FS} (enc : α → D) (f : β → α → β) (R : β → List α → SS → Prop) (h : ∀ s x r ss, R s (x :: r) ss → ∃ s1 s2, g (enc x) ss = some s1 ∧ b s1 = .nx s2 ∧ R (f s x) r s2) :
    ∀ (xs : List α) (s : β) (ss : SS), R s xs ss → ∃ s2, loopF g b (xs.map enc) ss = .nx s2 ∧ R (xs.foldl f s) [] s2
  | [], s, ss, r => ⟨ss, rfl, r⟩
  | x :: xs, s, ss, r => by
    obtain ⟨s1, s2, h1, h2, h3⟩ := h s x xs ss r
    obtain ⟨s3, h4, h5⟩ := loop_rest enc f R h xs (f s x) s2 h3
    refine ⟨s3, ?_, h5⟩
    rw [List.map_cons]
    unfold loopF
    rw [h1]
    simp only [h2]
    exact h4
@[simp] theorem q_ePkL (g i f) (ss : SS) : ePkL g i f ss = match objAt ss i with
  | some _ => (f ss).bind fun y s1 => match objAt s1 i with
    | some o => match g o.toD y with
      | some (.bool b) => .ok (.bool b) s1
      | _ => .no
    | none => .no
  | none => .no := rfl
theorem set_last {α : Type} (xs : List α) (x y : α) : (xs ++ [x]).set xs.length y = xs ++ [y] := by
  rw [List.set_append_right _ _ (Nat.le_refl _)]
  simp
theorem comp_pure {vs : List Nat} {g : GF} {t : FB} {e : FE} {ss : SS} (f : D → Option D) : ∀ ds : List D, (∀ d ∈ ds, turnF vs g t e d ss = some (f d, ss)) → compF vs g t e ds ss = some (ds.filterMap f, ss)
  | [], _ => rfl
  | d :: ds, h => by
    unfold compF
    rw [h d List.mem_cons_self]
    simp only
    rw [comp_pure f ds fun e he => h e (List.mem_cons_of_mem _ he)]
    simp only [List.filterMap_cons]
    cases f d <;> rfl
theorem comp_map {α : Type} {vs : List Nat} {g : GF} {t : FB} {e : FE} {ss : SS} (enc : α → D) (p : α → Bool) (f : α → D) : ∀ xs : List α, (∀ x ∈ xs, turnF vs g t e (enc x) ss = some (if p x = true then some (f x) else none, ss)) → compF vs g t e (xs.map enc) ss = some ((xs.filter p).map f, ss)
  | [], _ => rfl
  | d :: ds, h => by
    rw [List.map_cons]
    unfold compF
    rw [h d List.mem_cons_self]
    simp only
    rw [comp_map enc p f ds fun e he => h e (List.mem_cons_of_mem _ he)]
    simp only
    by_cases hp : p d = true
    · rw [if_pos hp, List.filter_cons_of_pos hp]; rfl
    · rw [if_neg hp, List.filter_cons_of_neg hp]; rfl
theorem comp2_map {α β : Type} {vs vs1 : List Nat} {g : GF} {t : FB} {src : FL} {g1 : GF} {t1 : FB} {e : FE} {ss : SS} (enc : α → D) (f : α → List D) : ∀ xs : List α, (∀ x ∈ xs, turn2F vs vs1 g t src g1 t1 e (enc x) ss = some (f x, ss)) → comp2F vs vs1 g t src g1 t1 e (xs.map enc) ss = some (xs.flatMap f, ss)
  | [], _ => rfl
  | d :: ds, h => by
    rw [List.map_cons]
    unfold comp2F
    rw [h d List.mem_cons_self]
    simp only
    rw [comp2_map (β := β) enc f ds fun e he => h e (List.mem_cons_of_mem _ he)]
    rfl
theorem comp_st {vs : List Nat} {g : GF} {t : FB} {e : FE} (N : Nat) (R : Nat → SS → Prop) (P : D → Prop) : ∀ (ds : List D) (j : Nat) (ss : SS), j + ds.length = N → R j ss → (∀ j ss d, j < N → d ∈ ds → R j ss → ∃ x s1, turnF vs g t e d ss = some (some x, s1) ∧ P x ∧ R (j + 1) s1) →
    ∃ xs s2, compF vs g t e ds ss = some (xs, s2) ∧ xs.length = ds.length ∧ (∀ x ∈ xs, P x) ∧ R N s2
  | [], j, ss, hN, r, _ => ⟨[], ss, rfl, rfl, fun x hx => (nomatch hx), by rw [← hN]; exact r⟩
  | d :: ds, j, ss, hN, r, h => by
    rw [List.length_cons] at hN
    obtain ⟨x, s1, h1, h2, h3⟩ := h j ss d (by omega) List.mem_cons_self r
    obtain ⟨xs, s2, k1, k2, k3, k4⟩ := comp_st N R P ds (j + 1) s1 (by omega) h3 fun j ss d hj hd => h j ss d hj (List.mem_cons_of_mem _ hd)
    refine ⟨x :: xs, s2, ?_, by rw [List.length_cons, List.length_cons, k2], fun y hy => ?_, k4⟩
    · unfold compF
      rw [h1]
      simp only [k1]
      rfl
    · rcases List.mem_cons.mp hy with rfl | hy
      · exact h2
      · exact k3 y hy
theorem at_mem {α : Type} {xs : List α} {k : Int} (h0 : 0 ≤ k) (h1 : k < xs.length) : ∃ x ∈ xs, atI xs k = some x := by
  obtain ⟨n, rfl⟩ := Int.eq_ofNat_of_zero_le h0
  have hn : n < xs.length := by omega
  exact ⟨xs[n], List.getElem_mem hn, at_get (List.getElem?_eq_getElem hn)⟩
@[simp] theorem q_nLc (vs src g t e) (ss : SS) : nLc vs src g t e ss = (src ss).bind fun ds s1 => match compF vs g t e ds (wipeS s1 vs) with
    | some (xs, s2) => if xs.length ≤ sizeLine then .ok (.lst xs) (backS vs s1 s2) else .no
    | none => .no := rfl
@[simp] theorem q_nLc2 (vs vs1 src g t src1 g1 t1 e) (ss : SS) : nLc2 vs vs1 src g t src1 g1 t1 e ss = (src ss).bind fun ds s1 => match comp2F vs vs1 g t src1 g1 t1 e ds (wipeS s1 vs) with
    | some (xs, s2) => if xs.length ≤ sizeLine then .ok (.lst xs) (backS vs s1 s2) else .no
    | none => .no := rfl
end Dm

set_option maxHeartbeats 1000000
/-! Dk: the deck of a law. -/
namespace Dk
open PySem L2 Dt Dm
def B_deck : FS := (sSeq (sIf (bOf (eOp dGe (eV 0) (eOp dPow (eC (.int 10)) (eC (.int 18))))) (sRetN (nLst (lCons (eOp dSub (eV 0) (eOp dPow (eC (.int 10)) (eC (.int 18)))) (lCons (eOp dMod (eV 0) (eC (.int 2147483579))) (lCons (eV 1) lNil))))) sNil)
    (sRetN (nLst (lCons (eC (.int 0)) (lCons (eOp dMod (eV 0) (eC (.int 2147483579))) (lCons (eV 1) lNil))))))
def F_deck : FnS := callF 2 B_deck
def B_pick : FS := (sSeq (sIf (bOf (eOp dGt (eOix 0 (eC (.int 0))) (eC (.int 1)))) (sSeq (sAsg (eOp dMod (eOix 0 (eC (.int 0))) (eV 1)) (gN 2))
    (sSeq (sSetL 0 (eC (.int 0)) (eOp dDiv (eOix 0 (eC (.int 0))) (eV 1)))
    (sRet (eV 2)))) sNil)
    (sSeq (sSetL 0 (eC (.int 2)) (eOp dAdd (eOix 0 (eC (.int 2))) (eC (.int 1))))
    (sSeq (sAsg (eOp dMod (eOp dPow (eOp dAdd (eOix 0 (eC (.int 1))) (eOp dMul (eC (.int 15485867)) (eOix 0 (eC (.int 2))))) (eC (.int 5))) (eC (.int 2147483647))) (gN 3))
    (sSeq (sAsg (eOp dDiv (eOp dMod (eOp dPow (eOp dAdd (eV 3) (eOp dMul (eC (.int 7919)) (eOix 0 (eC (.int 2))))) (eC (.int 3))) (eC (.int 2147483629))) (eC (.int 32))) (gN 2))
    (sSeq (sIf (bOf (eOp dGt (eV 1) (eC (.int 1000000)))) (sRet (eOp dMod (eOp dAdd (eOp dMul (eV 2) (eC (.int 2147483563))) (eV 3)) (eV 1))) sNil)
    (sRet (eOp dMod (eV 2) (eV 1))))))))
def F_pick : FnS := callF 4 B_pick
structure Deck (n : Nat) (o : O) : Prop where
  ex : ∃ a b c : Int, o = .lst [.int a, .int b, .int c] ∧ 0 ≤ b ∧ b < 2147483579 ∧ 0 ≤ c ∧ c ≤ n
theorem Deck.mono {n m : Nat} {o : O} (h : Deck n o) (k : n ≤ m) : Deck m o := by
  obtain ⟨a, b, c, h1, h2, h3, h4, h5⟩ := h
  exact ⟨a, b, c, h1, h2, h3, h4, by omega⟩
theorem deck_spec (x : Int) (t : Nat) : ∃ o, nv2 F_deck (.int x) (.int t) = some o ∧ Deck t o := by
  unfold F_deck
  rw [q_nv2]
  unfold B_deck
  have b1 : 0 ≤ x % 2147483579 := Int.emod_nonneg _ (by decide)
  have b2 : x % 2147483579 < 2147483579 := Int.emod_lt_of_pos _ (by decide)
  by_cases h : x ≥ 1000000000000000000
  · refine ⟨_, ?_, ⟨x - 10 ^ 18, x % 2147483579, t, rfl, b1, b2, by omega, by omega⟩⟩
    simp [h]
  · refine ⟨_, ?_, ⟨0, x % 2147483579, t, rfl, b1, b2, by omega, by omega⟩⟩
    simp [h]
theorem pick_spec {n : Nat} {o : O} {m : Int} (h : Deck n o) (hn : n ≤ 100000) (h0 : 0 < m) (h1 : m < 2 ^ 60) : ∃ (r : Int) (u : O), rv2 F_pick o (.int m) = some (.int r, u) ∧ 0 ≤ r ∧ r < m ∧ Deck (n + 1) u := by
  obtain ⟨a, b, c, rfl, hb1, hb2, hc1, hc2⟩ := h
  unfold F_pick
  rw [q_rv2]
  unfold B_pick
  have e3 : ∀ x : Int, 0 ≤ x % m := fun x => Int.emod_nonneg _ (by omega)
  have e4 : ∀ x : Int, x % m < m := fun x => Int.emod_lt_of_pos _ h0
  by_cases ha : 1 < a
  · refine ⟨a % m, _, ?_, e3 _, e4 _, ⟨a / m, b, c, rfl, hb1, hb2, hc1, by omega⟩⟩
    have hd : dDiv (.int a) (.int m) = some (.int (a / m)) := div_int h0 (by omega)
    have hx : ixN 3 0 = some 0 := by decide
    simp [-q_div, ha, hd, h0, hx]
  · have p1 : (b + 15485867 * (c + 1)).natAbs < 2 ^ 64 := by omega
    generalize hN : (b + 15485867 * (c + 1)) ^ 5 % 2147483647 = N
    have n1 : 0 ≤ N := by rw [← hN]; exact Int.emod_nonneg _ (by decide)
    have n2 : N < 2147483647 := by rw [← hN]; exact Int.emod_lt_of_pos _ (by decide)
    have p2 : (N + 7919 * (c + 1)).natAbs < 2 ^ 64 := by omega
    generalize hM : (N + 7919 * (c + 1)) ^ 3 % 2147483629 / 32 = M
    have m1 : 0 ≤ M := by rw [← hM]; exact Int.ediv_nonneg (Int.emod_nonneg _ (by decide)) (by decide)
    have m2 : M < 2147483629 := by
      have : (N + 7919 * (c + 1)) ^ 3 % 2147483629 < 2147483629 := Int.emod_lt_of_pos _ (by decide)
      rw [← hM]; omega
    have l1 : dMul (.int 15485867) (.int (c + 1)) = some (.int (15485867 * (c + 1))) := mul_int (by decide) (by omega)
    have l2 : dMul (.int 7919) (.int (c + 1)) = some (.int (7919 * (c + 1))) := mul_int (by decide) (by omega)
    have l3 : dMul (.int M) (.int 2147483563) = some (.int (M * 2147483563)) := mul_int (by omega) (by decide)
    have hx : ixN 3 2 = some 2 := by decide
    have d32 : Nat.log2 32 < 9000 := q_log9 (by decide)
    by_cases hm : 1000000 < m
    · refine ⟨(M * 2147483563 + N) % m, _, ?_, e3 _, e4 _, ⟨a, b, c + 1, rfl, hb1, hb2, by omega, by omega⟩⟩
      simp [-q_mul, ha, h0, hx, l1, l2, l3, p1, hN, p2, hM, hm, d32]
    · refine ⟨M % m, _, ?_, e3 _, e4 _, ⟨a, b, c + 1, rfl, hb1, hb2, by omega, by omega⟩⟩
      simp [-q_mul, ha, h0, hx, l1, l2, l3, p1, hN, p2, hM, hm, d32]
end Dk

/-! Dq: data with a Lean type. -/
namespace Dm
open PySem L2 Dt
open PySem.W (Datum DatumOrd Tup T3 T4)
section
variable {α : Type} [DecidableEq α]
theorem eq_dat [Datum α] (x y : α) (h : Datum.depth α ≤ 60 := by decide) : dEq (Datum.toD x) (Datum.toD y) = some (.bool (decide (x = y))) := by
  have e := Datum.eqv x y
  have hc : cmpOk (Datum.toD x) (Datum.toD y) = true := by
    unfold cmpOk
    rw [Datum.plain, Datum.plain, Bool.true_and, Bool.true_and, decide_eq_true_eq]
    exact Nat.le_trans (Nat.min_le_left _ _) (Nat.le_trans (Datum.depth_le x) h)
  unfold dEq
  split
  · rename_i h1 h2
    rw [h1, h2] at e
    rw [← e]
    simp [PyData.eqv]
  · rename_i h1 h2
    rw [h1, h2] at e
    rw [← e]
    simp [PyData.eqv]
  · rw [if_pos hc, e]
theorem ne_dat [Datum α] (x y : α) (h : Datum.depth α ≤ 60 := by decide) : dNe (Datum.toD x) (Datum.toD y) = some (.bool (!decide (x = y))) := by
  have e := Datum.eqv x y
  have hc : cmpOk (Datum.toD x) (Datum.toD y) = true := by
    unfold cmpOk
    rw [Datum.plain, Datum.plain, Bool.true_and, Bool.true_and, decide_eq_true_eq]
    exact Nat.le_trans (Nat.min_le_left _ _) (Nat.le_trans (Datum.depth_le x) h)
  unfold dNe
  split
  · rename_i h1 h2
    rw [h1, h2] at e
    rw [← e]
    simp [PyData.eqv]
  · rename_i h1 h2
    rw [h1, h2] at e
    rw [← e]
    simp [PyData.eqv]
  · rw [if_pos hc, e]
/-- a list in order -/
def srt [DatumOrd α] (xs : List α) : List α := xs.mergeSort fun a b => !DatumOrd.lt b a
theorem srt_dat [DatumOrd α] (xs : List α) (hk : sortKind (xs.map Datum.toD) = true) (h : Datum.depth α ≤ 60 := by decide) : gSorted [.list (xs.map Datum.toD)] = some (.lst ((srt xs).map Datum.toD)) := by
  have h1 : sortOk (xs.map (Datum.toD (α := α))) = true := by
    unfold sortOk
    rw [List.all_eq_true]
    intro d hd
    rw [List.all_eq_true]
    intro e he
    obtain ⟨a, _, rfl⟩ := List.mem_map.mp hd
    obtain ⟨b, _, rfl⟩ := List.mem_map.mp he
    exact DatumOrd.alike a b
  unfold gSorted
  simp only
  rw [if_pos ⟨h1, hk, PySem.W.plainAll_map xs, Nat.le_trans (PySem.W.depthAll_map xs) h⟩]
  congr 2
  exact (List.map_mergeSort (f := Datum.toD) fun a _ b _ => by
    show (!DatumOrd.lt b a) = (!PySem.W.dataLt (Datum.toD b) (Datum.toD a))
    rw [DatumOrd.lt_eq]).symm
theorem srt_perm [DatumOrd α] (xs : List α) : (srt xs).Perm xs := List.mergeSort_perm _ _
theorem srt_pair [DatumOrd α] (xs : List α) : (srt xs).Pairwise fun a b => DatumOrd.lt b a = false := by
  have T := PySem.W.sortLe_total (PyProof.Rows.listOrd PyProof.Rows.itemOrd) false fun a : α => PySem.W.keyToks (Datum.toD a)
  have e : ∀ a b : α, (!DatumOrd.lt b a) = PySem.W.sortLe (PyProof.Rows.listOrd PyProof.Rows.itemOrd) false (fun a : α => PySem.W.keyToks (Datum.toD a)) a b := fun a b => by
    show _ = (!PySem.W.dataLt (Datum.toD b) (Datum.toD a))
    rw [DatumOrd.lt_eq]
  have := List.pairwise_mergeSort (le := fun a b : α => !DatumOrd.lt b a) (fun a b c h1 h2 => by
    rw [e] at *
    exact T.trans a b c h1 h2) (fun a b => by
    rw [e, e, Bool.or_eq_true]
    exact T.total a b) xs
  exact this.imp fun h => by simpa using h
end
theorem pair_kind {α β : Type} [DecidableEq α] [Datum α] [DecidableEq β] [Datum β] (xs : List (α × β)) : sortKind (xs.map Datum.toD) = true := by
  unfold sortKind
  rw [Bool.or_eq_true]
  refine .inl (List.all_eq_true.mpr fun d hd => ?_)
  obtain ⟨a, _, rfl⟩ := List.mem_map.mp hd
  rfl
theorem int_kind (xs : List Int) : sortKind (xs.map Datum.toD) = true := by
  unfold sortKind
  rw [Bool.or_eq_true]
  refine .inr (List.all_eq_true.mpr fun d hd => ?_)
  obtain ⟨a, _, rfl⟩ := List.mem_map.mp hd
  rfl
end Dm

/-! Dn: comprehensions and loops, ready for rw. -/
namespace Dm
open PySem L2 Dt
theorem nLc_map {α : Type} {vs : List Nat} {src : FL} {g : GF} {t : FB} {e : FE} {ss ss1 : SS} (enc : α → D) (p : α → Bool) (f : α → D) (xs : List α) (hs : src ss = .ok (xs.map enc) ss1)
    (h : ∀ x ∈ xs, turnF vs g t e (enc x) (wipeS ss1 vs) = some (if p x = true then some (f x) else none, wipeS ss1 vs)) (hl : (xs.filter p).length ≤ sizeLine) :
    nLc vs src g t e ss = .ok (.lst ((xs.filter p).map f)) (backS vs ss1 (wipeS ss1 vs)) := by
  rw [q_nLc, hs, q_bind_ok, comp_map enc p f xs h]
  simp only [List.length_map, if_pos hl]
theorem nLc_all {α : Type} {vs : List Nat} {src : FL} {g : GF} {t : FB} {e : FE} {ss ss1 : SS} (enc : α → D) (f : α → D) (xs : List α) (hs : src ss = .ok (xs.map enc) ss1)
    (h : ∀ x ∈ xs, turnF vs g t e (enc x) (wipeS ss1 vs) = some (some (f x), wipeS ss1 vs)) (hl : xs.length ≤ sizeLine) :
    nLc vs src g t e ss = .ok (.lst (xs.map f)) (backS vs ss1 (wipeS ss1 vs)) := by
  have hf : xs.filter (fun _ => true) = xs := List.filter_eq_self.mpr fun _ _ => rfl
  have := nLc_map (vs := vs) (src := src) (g := g) (t := t) (e := e) enc (fun _ => true) f xs hs (fun x hx => by rw [h x hx]; rfl) (by rw [hf]; exact hl)
  rw [hf] at this
  exact this
theorem nLc2_map {α : Type} {vs vs1 : List Nat} {src : FL} {g : GF} {t : FB} {src1 : FL} {g1 : GF} {t1 : FB} {e : FE} {ss ss1 : SS} (enc : α → D) (f : α → List D) (xs : List α) (hs : src ss = .ok (xs.map enc) ss1)
    (h : ∀ x ∈ xs, turn2F vs vs1 g t src1 g1 t1 e (enc x) (wipeS ss1 vs) = some (f x, wipeS ss1 vs)) (hl : (xs.flatMap f).length ≤ sizeLine) :
    nLc2 vs vs1 src g t src1 g1 t1 e ss = .ok (.lst (xs.flatMap f)) (backS vs ss1 (wipeS ss1 vs)) := by
  rw [q_nLc2, hs, q_bind_ok, comp2_map (β := α) enc f xs h]
  simp only [if_pos hl]
/-! a loop whose turns may leave -/
def foldE {α β ε : Type} (f : β → α → β ⊕ ε) : β → List α → β ⊕ ε
  | s, [] => .inl s
  | s, x :: r => match f s x with
    | .inl t => foldE f t r
    | .inr e => .inr e
theorem loop_exit {α β ε : Type} {g : GF} {b : FS} (enc : α → D) (f : β → α → β ⊕ ε) (res : ε → Sl) (R : β → List α → SS → Prop) (R' : ε → SS → Prop) (h : ∀ s x rest ss, R s (x :: rest) ss → ∃ s1, g (enc x) ss = some s1 ∧ match f s x with
    | .inl t => ∃ s2, (b s1 = .nx s2 ∨ b s1 = .ct s2) ∧ R t rest s2
    | .inr e => ∃ s2, b s1 = .rt (res e) s2 ∧ R' e s2) :
    ∀ (xs : List α) (s : β) (ss : SS), R s xs ss → match foldE f s xs with
    | .inl t => ∃ s2, loopF g b (xs.map enc) ss = .nx s2 ∧ R t [] s2
    | .inr e => ∃ s2, loopF g b (xs.map enc) ss = .rt (res e) s2 ∧ R' e s2
  | [], s, ss, hr => ⟨ss, rfl, hr⟩
  | x :: xs, s, ss, hr => by
    obtain ⟨s1, h1, h2⟩ := h s x xs ss hr
    unfold foldE
    rw [List.map_cons]
    unfold loopF
    rw [h1]
    cases e : f s x with
    | inl t =>
      rw [e] at h2
      obtain ⟨s2, h3, h4⟩ := h2
      have h5 := loop_exit enc f res R R' h xs t s2 h4
      rcases h3 with h3 | h3 <;> simp only [h3] <;> exact h5
    | inr t =>
      rw [e] at h2
      obtain ⟨s2, h3, h4⟩ := h2
      simp only [h3]
      exact ⟨s2, rfl, h4⟩
/-- a loop that never leaves; what holds is told along -/
theorem loop_inv {α : Type} {g : GF} {b : FS} (enc : α → D) (R : List α → SS → Prop) (h : ∀ x r ss, R (x :: r) ss → ∃ s1 s2, g (enc x) ss = some s1 ∧ (b s1 = .nx s2 ∨ b s1 = .ct s2) ∧ R r s2) :
    ∀ (xs : List α) (ss : SS), R xs ss → ∃ s2, loopF g b (xs.map enc) ss = .nx s2 ∧ R [] s2
  | [], ss, r => ⟨ss, rfl, r⟩
  | x :: xs, ss, r => by
    obtain ⟨s1, s2, h1, h2, h3⟩ := h x xs ss r
    obtain ⟨s3, h4, h5⟩ := loop_inv enc R h xs s2 h3
    refine ⟨s3, ?_, h5⟩
    rw [List.map_cons]
    unfold loopF
    rw [h1]
    rcases h2 with h2 | h2 <;> simp only [h2] <;> exact h4
theorem mapM_asB {α : Type} (f : α → D) (g : α → Bool) (h : ∀ x, f x = .bool (g x)) : ∀ xs : List α, (xs.map f).mapM asB = some (xs.map g)
  | [] => rfl
  | x :: xs => by rw [List.map_cons, List.mapM_cons, mapM_asB f g h xs, h]; rfl
theorem mapM_asI {α : Type} (f : α → D) (g : α → Int) (h : ∀ x, f x = .int (g x)) : ∀ xs : List α, (xs.map f).mapM asI = some (xs.map g)
  | [] => rfl
  | x :: xs => by rw [List.map_cons, List.mapM_cons, mapM_asI f g h xs, h]; rfl
open PySem.W (Datum DatumOrd Tup T3 T4)
section
variable {α : Type} [DecidableEq α] [DatumOrd α]
theorem ord_ok (x y : α) (h : Datum.depth α ≤ 60 := by decide) : ordOk (Datum.toD x) (Datum.toD y) = true := by
  unfold ordOk
  have hn := DatumOrd.notNone x
  simp only [Datum.plain, DatumOrd.alike, Bool.and_eq_true, decide_eq_true_eq, and_self, true_and]
  refine ⟨Nat.le_trans (Nat.min_le_left _ _) (Nat.le_trans (Datum.depth_le x) h), ?_⟩
  trivial
theorem lt_dat (x y : α) (h : Datum.depth α ≤ 60 := by decide) : dLt (Datum.toD x) (Datum.toD y) = some (.bool (DatumOrd.lt x y)) := by
  have e := DatumOrd.lt_eq x y
  unfold dLt
  split
  · rename_i h1 h2; rw [h1, h2] at e; rw [← e, PySem.W.dataLt_int]
  · rename_i h1 h2; rw [h1, h2] at e; rw [← e, PySem.W.dataLt_str]
  · rw [if_pos (ord_ok x y h), e]
theorem gt_dat (x y : α) (h : Datum.depth α ≤ 60 := by decide) : dGt (Datum.toD x) (Datum.toD y) = some (.bool (DatumOrd.lt y x)) := by
  have e := DatumOrd.lt_eq y x
  unfold dGt
  split
  · rename_i h1 h2; rw [h1, h2] at e; rw [← e, PySem.W.dataLt_int]
  · rename_i h1 h2; rw [h1, h2] at e; rw [← e, PySem.W.dataLt_str]
  · rw [if_pos (ord_ok x y h), e]
theorem le_dat (x y : α) (h : Datum.depth α ≤ 60 := by decide) : dLe (Datum.toD x) (Datum.toD y) = some (.bool (!DatumOrd.lt y x)) := by
  have e := DatumOrd.lt_eq y x
  unfold dLe
  split
  · rename_i i j h1 h2
    rw [h1, h2] at e
    rw [← e, PySem.W.dataLt_int]
    congr 2
    by_cases hij : i ≤ j
    · rw [decide_eq_true hij, decide_eq_false (by omega)]; rfl
    · rw [decide_eq_false hij, decide_eq_true (by omega)]; rfl
  · rename_i h1 h2; rw [h1, h2] at e; rw [← e, PySem.W.dataLt_str]
  · rw [if_pos (ord_ok x y h), e]
theorem plainAll_dat (xs : List α) : PyData.plainAll (xs.map Datum.toD) = true := PySem.W.plainAll_map xs
end
section
variable {α : Type} [DecidableEq α] [Datum α]
theorem any_dat (x : α) : ∀ ys : List α, ((ys.map Datum.toD).any fun y => PyData.eqv y (Datum.toD x)) = decide (x ∈ ys)
  | [] => by simp
  | y :: ys => by
    rw [List.map_cons, List.any_cons, any_dat x ys, Datum.eqv, Bool.eq_iff_iff]
    simp only [Bool.or_eq_true, decide_eq_true_eq, List.mem_cons]
    exact or_congr_left eq_comm
theorem in_dat_l (x : α) (ys : List α) (h : Datum.depth α ≤ 60 := by decide) : dIn (Datum.toD x) (.list (ys.map Datum.toD)) = some (.bool (decide (x ∈ ys))) := by
  unfold dIn inB
  simp only
  rw [if_pos ⟨Datum.plain x, PySem.W.plainAll_map ys, Nat.le_trans (Nat.min_le_right _ _) (Nat.le_trans (Datum.depth_le x) h)⟩, any_dat]
  rfl
theorem in_dat_t (x : α) (ys : List α) (h : Datum.depth α ≤ 60 := by decide) : dIn (Datum.toD x) (.tuple (ys.map Datum.toD)) = some (.bool (decide (x ∈ ys))) := by
  unfold dIn inB
  simp only
  rw [if_pos ⟨Datum.plain x, PySem.W.plainAll_map ys, Nat.le_trans (Nat.min_le_right _ _) (Nat.le_trans (Datum.depth_le x) h)⟩, any_dat]
  rfl
theorem nin_dat_l (x : α) (ys : List α) (h : Datum.depth α ≤ 60 := by decide) : dNin (Datum.toD x) (.list (ys.map Datum.toD)) = some (.bool (!decide (x ∈ ys))) := by
  have := in_dat_l x ys h
  unfold dIn at this
  unfold dNin
  cases e : inB (Datum.toD x) (.list (ys.map Datum.toD)) with
  | none => rw [e] at this; cases this
  | some b => rw [e] at this; cases this; rfl
theorem nin_dat_t (x : α) (ys : List α) (h : Datum.depth α ≤ 60 := by decide) : dNin (Datum.toD x) (.tuple (ys.map Datum.toD)) = some (.bool (!decide (x ∈ ys))) := by
  have := in_dat_t x ys h
  unfold dIn at this
  unfold dNin
  cases e : inB (Datum.toD x) (.tuple (ys.map Datum.toD)) with
  | none => rw [e] at this; cases this
  | some b => rw [e] at this; cases this; rfl
end
end Dm
namespace Dm
open PySem L2 Dt
/-- comprehensions whose source leaves the slots as they are -/
theorem nLc_pure {α : Type} {vs : List Nat} {src : FL} {g : GF} {t : FB} {e : FE} {ss : SS} (enc : α → D) (f : α → D) (xs : List α) (hs : src ss = .ok (xs.map enc) ss)
    (h : ∀ x ∈ xs, turnF vs g t e (enc x) (wipeS ss vs) = some (some (f x), wipeS ss vs)) (hl : xs.length ≤ sizeLine) :
    nLc vs src g t e ss = .ok (.lst (xs.map f)) (backS vs ss (wipeS ss vs)) := nLc_all enc f xs hs h hl
theorem nLc_filt {α : Type} {vs : List Nat} {src : FL} {g : GF} {t : FB} {e : FE} {ss : SS} (enc : α → D) (p : α → Bool) (f : α → D) (xs : List α) (hs : src ss = .ok (xs.map enc) ss)
    (h : ∀ x ∈ xs, turnF vs g t e (enc x) (wipeS ss vs) = some (if p x = true then some (f x) else none, wipeS ss vs)) (hl : xs.length ≤ sizeLine) :
    nLc vs src g t e ss = .ok (.lst ((xs.filter p).map f)) (backS vs ss (wipeS ss vs)) := nLc_map enc p f xs hs h (Nat.le_trans (List.length_filter_le _ _) hl)
/-- for cell in [0] + script[:k]: ..; a last statement -/
theorem law_endT {N : Nat} {k : Int} {B : FS} {bd tl : FS} {ns : List Int} (hB : B = sSeq (sFor (lSeq (eOp dAdd (eFz (nLst (lCons (eC (.int 0)) lNil))) (eSl (eV 0) oNone (oSome (eC (.int k)))))) (gN 1) bd) tl)
    (R : SS → Prop) (h0 : R (.imm (.list (ns.map .int)) :: List.replicate (N - 1) .un)) (h : ∀ (x : Int) (ss : SS), R ss → ∃ s1 s2, gN 1 (.int x) ss = some s1 ∧ (bd s1 = .nx s2 ∨ bd s1 = .ct s2) ∧ R s2)
    (ht : ∀ ss, R ss → ∃ s2, tl ss = .rt (.imm (.bool true)) s2) (hn : ns.length ≤ 63) :
    ∃ args, callF N B [.imm (.list (ns.map .int))] = some (.imm (.bool true), args) := by
  obtain ⟨cells, hcut⟩ : ∃ cells : List Int, (.int 0 :: cutD (ns.map .int) none (some k) : List D) = cells.map .int := by
    unfold cutD
    rw [← List.map_drop, ← List.map_take]
    exact ⟨0 :: _, rfl⟩
  have hl : (cutD (ns.map PyData.int) none (some k)).length ≤ 63 := by
    unfold cutD
    rw [List.length_take, List.length_drop, List.length_map]
    omega
  obtain ⟨s2, h1, h2⟩ := loop_inv (g := gN 1) (b := bd) (fun n : Int => (.int n : D)) (fun _ ss => R ss) (fun x _ ss hR => h x ss hR) cells _ h0
  obtain ⟨s3, h3⟩ := ht _ h2
  have hs : dSl (.list (ns.map .int)) none (some k) = some (.list (cutD (ns.map .int) none (some k))) := rfl
  have hBB : B (.imm (.list (ns.map .int)) :: List.replicate (N - 1) .un) = .rt (.imm (.bool true)) s3 := by
    rw [hB]
    have h1' : loopF (gN 1) bd (.int 0 :: cutD (ns.map .int) none (some k)) (.imm (.list (ns.map .int)) :: List.replicate (N - 1) .un) = .nx s2 := by rw [hcut]; exact h1
    have hle : 1 + (cutD (ns.map PyData.int) none (some k)).length ≤ 16777216 := by omega
    have hle3 : (cutD (ns.map PyData.int) none (some k)).length + 1 ≤ 16777216 := by omega
    rw [← h3]
    simp [oSome, hs, hle, hle3, h1']
  refine ⟨s3.take 1, ?_⟩
  show (match B (.imm (.list (ns.map .int)) :: List.replicate (N - 1) .un) with | .rt r ss => _ | .nx ss => _ | _ => _) = _
  rw [hBB]
  rfl
/-- for cell in [0] + script[:k]: ..; return True -/
theorem law_end {N : Nat} {k : Int} {B : FS} {bd : FS} {ns : List Int} (hB : B = sSeq (sFor (lSeq (eOp dAdd (eFz (nLst (lCons (eC (.int 0)) lNil))) (eSl (eV 0) oNone (oSome (eC (.int k)))))) (gN 1) bd) (sRet (eC (.bool true))))
    (R : SS → Prop) (h0 : R (.imm (.list (ns.map .int)) :: List.replicate (N - 1) .un)) (h : ∀ (x : Int) (ss : SS), R ss → ∃ s1 s2, gN 1 (.int x) ss = some s1 ∧ (bd s1 = .nx s2 ∨ bd s1 = .ct s2) ∧ R s2) (hn : ns.length ≤ 63) :
    ∃ args, callF N B [.imm (.list (ns.map .int))] = some (.imm (.bool true), args) :=
  law_endT hB R h0 h (fun ss _ => ⟨ss, by simp⟩) hn
end Dm
namespace Dm
open PySem L2 Dt
theorem loop_invE {α : Type} {g : GF} {b : FS} {enc : α → D} {xs : List α} {ss : SS} {o : Out} (hL : loopF g b (xs.map enc) ss = o) (R : List α → SS → Prop) (h0 : R xs ss)
    (h : ∀ x r ss, R (x :: r) ss → ∃ s1 s2, g (enc x) ss = some s1 ∧ (b s1 = .nx s2 ∨ b s1 = .ct s2) ∧ R r s2) : ∃ s2, o = .nx s2 ∧ R [] s2 := by
  rw [← hL]
  exact loop_inv enc R h xs ss h0
theorem loop_restE {α β : Type} {g : GF} {b : FS} {enc : α → D} {xs : List α} {ss : SS} {o : Out} (hL : loopF g b (xs.map enc) ss = o) (f : β → α → β) (R : β → List α → SS → Prop) (s : β) (h0 : R s xs ss)
    (h : ∀ s x r ss, R s (x :: r) ss → ∃ s1 s2, g (enc x) ss = some s1 ∧ b s1 = .nx s2 ∧ R (f s x) r s2) : ∃ s2, o = .nx s2 ∧ R (xs.foldl f s) [] s2 := by
  rw [← hL]
  exact loop_rest enc f R h xs s ss h0
theorem loop_exitE {α β ε : Type} {g : GF} {b : FS} {enc : α → D} {xs : List α} {ss : SS} {o : Out} (hL : loopF g b (xs.map enc) ss = o) (f : β → α → β ⊕ ε) (res : ε → Sl) (R : β → List α → SS → Prop) (R' : ε → SS → Prop) (s : β) (h0 : R s xs ss)
    (h : ∀ s x rest ss, R s (x :: rest) ss → ∃ s1, g (enc x) ss = some s1 ∧ match f s x with
    | .inl t => ∃ s2, (b s1 = .nx s2 ∨ b s1 = .ct s2) ∧ R t rest s2
    | .inr e => ∃ s2, b s1 = .rt (res e) s2 ∧ R' e s2) : match foldE f s xs with
    | .inl t => ∃ s2, o = .nx s2 ∧ R t [] s2
    | .inr e => ∃ s2, o = .rt (res e) s2 ∧ R' e s2 := by
  rw [← hL]
  exact loop_exit enc f res R R' h xs s ss h0
end Dm
namespace Dm
open PySem L2 Dt
@[simp] theorem lend_nil : lend [] = [] := rfl
@[simp] theorem lend_cons (a : Sl) (r : SS) : lend (a :: r) = lendS a :: lend r := rfl
@[simp] theorem unlend_nil : unlend [] [] = [] := rfl
@[simp] theorem unlend_cons (a b : Sl) (r s : SS) : unlend (a :: r) (b :: s) = unlendS a b :: unlend r s := rfl
@[simp] theorem lendS_imm (d : D) : lendS (.imm d) = .imm d := rfl
@[simp] theorem lendS_un : lendS .un = .un := rfl
@[simp] theorem lendS_own (o : O) : lendS (.own o) = .bor o := rfl
@[simp] theorem lendS_bor (o : O) : lendS (.bor o) = .bor o := rfl
@[simp] theorem unlendS_self (a : Sl) : unlendS a (lendS a) = a := by cases a <;> rfl
@[simp] theorem unlendS_imm (a : Sl) (d : D) : unlendS a (.imm d) = .imm d := by cases a <;> rfl
@[simp] theorem unlendS_un (a : Sl) : unlendS a .un = .un := by cases a <;> rfl
@[simp] theorem unlendS_ob (o u : O) : unlendS (.own o) (.bor u) = .own u := rfl
@[simp] theorem unlendS_bb (o u : O) : unlendS (.bor o) (.bor u) = .bor u := rfl
@[simp] theorem wipeS_nil (ss : SS) : wipeS ss [] = ss := rfl
@[simp] theorem wipeS_cons (ss : SS) (v : Nat) (vs : List Nat) : wipeS ss (v :: vs) = (wipeS ss vs).set v .un := rfl
@[simp] theorem backS_def (vs : List Nat) (ss s2 : SS) : backS vs ss s2 = backF vs 0 ss s2 := rfl
@[simp] theorem backF_cons (vs : List Nat) (i : Nat) (s t : Sl) (ss ts : SS) : backF vs i (s :: ss) (t :: ts) = (if i ∈ vs then keepS s else t) :: backF vs (i + 1) ss ts := rfl
@[simp] theorem backF_nil (vs : List Nat) (i : Nat) : backF vs i [] [] = [] := rfl
@[simp] theorem keepS_imm (d : D) : keepS (.imm d) = .imm d := rfl
@[simp] theorem keepS_un : keepS .un = .un := rfl
@[simp] theorem keepS_own (o : O) : keepS (.own o) = .un := rfl
@[simp] theorem keepS_bor (o : O) : keepS (.bor o) = .un := rfl
@[simp] theorem compF_nil (vs g t e) (ss : SS) : compF vs g t e [] ss = some ([], ss) := rfl
@[simp] theorem compF_cons (vs g t e d r) (ss : SS) : compF vs g t e (d :: r) ss = match turnF vs g t e d ss with
  | none => none
  | some (o, s1) => match compF vs g t e r s1 with
    | none => none
    | some (xs, s2) => some (o.toList ++ xs, s2) := rfl
@[simp] theorem turnF_def (vs g t e d) (ss : SS) : turnF vs g t e d ss = match g d (lend ss) with
  | none => none
  | some s1 => match t s1 with
    | .no => none
    | .ok false s2 => some (none, unlend ss (wipeS s2 vs))
    | .ok true s2 => match e s2 with
      | .no => none
      | .ok x s3 => some (some x, unlend ss (wipeS s3 vs)) := rfl
end Dm
namespace Dm
open PySem L2 Dt
theorem cut_from (xs : List D) (k : Nat) : cutD xs (some (k : Int)) none = xs.drop k := by
  unfold cutD
  rw [HT.sIx_none, HT.sIx_nat]
  by_cases h : k ≤ xs.length
  · rw [Nat.min_eq_left h, List.take_of_length_le (by simp)]
  · rw [Nat.min_eq_right (by omega), List.drop_of_length_le (Nat.le_refl _), List.drop_of_length_le (by omega)]
    simp
theorem cut_to (xs : List D) (k : Nat) : cutD xs none (some (k : Int)) = xs.take k := by
  unfold cutD
  rw [HT.sIx_none, HT.sIx_nat, List.drop_zero, Nat.sub_zero]
  by_cases h : k ≤ xs.length
  · rw [Nat.min_eq_left h]
  · rw [Nat.min_eq_right (by omega), List.take_of_length_le (Nat.le_refl _), List.take_of_length_le (by omega)]
@[simp] theorem cut_1 (xs : List D) : cutD xs (some 1) none = xs.drop 1 := cut_from xs 1
@[simp] theorem cut_2 (xs : List D) : cutD xs (some 2) none = xs.drop 2 := cut_from xs 2
@[simp] theorem cut_3 (xs : List D) : cutD xs (some 3) none = xs.drop 3 := cut_from xs 3
@[simp] theorem cut_t2 (xs : List D) : cutD xs none (some 2) = xs.take 2 := cut_to xs 2
@[simp] theorem cut_t3 (xs : List D) : cutD xs none (some 3) = xs.take 3 := cut_to xs 3
@[simp] theorem cut_t4 (xs : List D) : cutD xs none (some 4) = xs.take 4 := cut_to xs 4
theorem zip_map {α β : Type} (f : α → D) (g : β → D) : ∀ (xs : List α) (ys : List β), zipD (xs.map f) (ys.map g) = (xs.zip ys).map fun p : α × β => (.tuple [f p.1, g p.2] : D)
  | [], _ => by simp [zipD]
  | _ :: _, [] => by simp [zipD]
  | x :: xs, y :: ys => by
    have := zip_map f g xs ys
    unfold zipD at *
    simp [this]
@[simp] theorem q_lZip (f : FL) (ss : SS) : lZip f ss = (f ss).bind fun d s1 => match d with
  | [.list xs, .list ys] => .ok (zipD xs ys) s1
  | [.tuple xs, .tuple ys] => .ok (zipD xs ys) s1
  | _ => .no := rfl
end Dm
namespace Dm
open PySem L2 Dt
theorem seq_nx {a b : FS} {ss s1 : SS} (h : a ss = .nx s1) : sSeq a b ss = b s1 := by rw [q_sSeq, h, q_then_nx]
theorem seq_rt {a b : FS} {ss s1 : SS} {r : Sl} (h : a ss = .rt r s1) : sSeq a b ss = .rt r s1 := by rw [q_sSeq, h, q_then_rt]
end Dm

/-! Rn: ranges, in plain Lean. -/
namespace Rn
abbrev Pr := Int × Int
def Mem (ps : List Pr) (x : Int) : Prop := ∃ p ∈ ps, p.1 ≤ x ∧ x ≤ p.2
theorem mem_cons {p : Pr} {ps : List Pr} {x : Int} : Mem (p :: ps) x ↔ (p.1 ≤ x ∧ x ≤ p.2) ∨ Mem ps x := by
  simp [Mem]
theorem mem_nil {x : Int} : ¬Mem [] x := by simp [Mem]
def Can (lo hi : Int) : List Pr → Prop
  | [] => True
  | p :: r => lo ≤ p.1 ∧ p.1 ≤ p.2 ∧ p.2 ≤ hi ∧ Can (p.2 + 2) hi r
theorem Can.low {hi x : Int} : ∀ {ps : List Pr} {lo : Int}, Can lo hi ps → Mem ps x → lo ≤ x ∧ x ≤ hi
  | p :: r, lo, h, m => by
    rcases mem_cons.mp m with m | m
    · exact ⟨Int.le_trans h.1 m.1, Int.le_trans m.2 h.2.2.1⟩
    · have := Can.low h.2.2.2 m
      have := h.1
      have := h.2.1
      omega
  | [], lo, h, m => (mem_nil m).elim
theorem Can.ext {hi hi' : Int} : ∀ {ps qs : List Pr} {lo lo' : Int}, Can lo hi ps → Can lo' hi' qs → (∀ x, Mem ps x ↔ Mem qs x) → ps = qs
  | [], [], _, _, _, _, _ => rfl
  | [], q :: s, _, _, _, h, e => ((mem_nil ((e q.1).mpr (mem_cons.mpr (.inl ⟨Int.le_refl _, h.2.1⟩)))).elim)
  | q :: s, [], _, _, h, _, e => ((mem_nil ((e q.1).mp (mem_cons.mpr (.inl ⟨Int.le_refl _, h.2.1⟩)))).elim)
  | p :: r, q :: s, lo, lo', h, k, e => by
    obtain ⟨h1, h2, h3, h4⟩ := h
    obtain ⟨k1, k2, k3, k4⟩ := k
    have a1 : q.1 ≤ p.1 := by
      rcases mem_cons.mp ((e p.1).mp (mem_cons.mpr (.inl ⟨Int.le_refl _, h2⟩))) with m | m
      · exact m.1
      · have := (k4.low m).1; omega
    have a2 : p.1 ≤ q.1 := by
      rcases mem_cons.mp ((e q.1).mpr (mem_cons.mpr (.inl ⟨Int.le_refl _, k2⟩))) with m | m
      · exact m.1
      · have := (h4.low m).1; omega
    have a3 : p.2 ≤ q.2 := by
      refine Decidable.byContradiction fun hn => ?_
      rcases mem_cons.mp ((e (q.2 + 1)).mp (mem_cons.mpr (.inl ⟨by omega, by omega⟩))) with m | m
      · omega
      · have := (k4.low m).1; omega
    have a4 : q.2 ≤ p.2 := by
      refine Decidable.byContradiction fun hn => ?_
      rcases mem_cons.mp ((e (p.2 + 1)).mpr (mem_cons.mpr (.inl ⟨by omega, by omega⟩))) with m | m
      · omega
      · have := (h4.low m).1; omega
    have a : p = q := Prod.ext (Int.le_antisymm a2 a1) (Int.le_antisymm a3 a4)
    subst a
    refine congrArg (p :: ·) (Can.ext h4 k4 fun x => ⟨fun m => ?_, fun m => ?_⟩)
    · rcases mem_cons.mp ((e x).mp (mem_cons.mpr (.inr m))) with m' | m'
      · have := (h4.low m).1; omega
      · exact m'
    · rcases mem_cons.mp ((e x).mpr (mem_cons.mpr (.inr m))) with m' | m'
      · have := (k4.low m).1; omega
      · exact m'
/-! ### joining, the list backwards -/
def jstep (acc : List Pr) (p : Pr) : List Pr := match acc with
  | [] => if p.1 ≤ p.2 then [p] else []
  | q :: r => if p.1 ≤ q.2 + 1 then (q.1, if p.2 > q.2 then p.2 else q.2) :: r else if p.1 ≤ p.2 then p :: q :: r else q :: r
/-- backwards: the last one first -/
def Bk (lo hi : Int) : List Pr → Prop
  | [] => True
  | p :: r => lo ≤ p.1 ∧ p.1 ≤ p.2 ∧ p.2 ≤ hi ∧ (∀ q ∈ r, q.2 + 2 ≤ p.1) ∧ Bk lo hi r
theorem jstep_ok {lo hi : Int} {acc : List Pr} {p : Pr} (h : Bk lo hi acc) (hs : ∀ q ∈ acc, q.1 ≤ p.1) (h1 : lo ≤ p.1) (h2 : p.1 ≤ p.2) (h3 : p.2 ≤ hi) : Bk lo hi (jstep acc p) ∧ (∀ q ∈ jstep acc p, q.1 ≤ p.1) ∧ (∀ x, Mem (jstep acc p) x ↔ Mem acc x ∨ (p.1 ≤ x ∧ x ≤ p.2)) ∧ (jstep acc p).length ≤ acc.length + 1 := by
  cases acc with
  | nil =>
    unfold jstep
    rw [if_pos h2]
    refine ⟨⟨h1, h2, h3, fun q hq => (nomatch hq), trivial⟩, fun q hq => ?_, fun x => ?_, by simp⟩
    · rw [List.mem_singleton.mp hq]; exact Int.le_refl _
    · rw [mem_cons]
      simp [mem_nil]
  | cons q r =>
    obtain ⟨k1, k2, k3, k4, k5⟩ := h
    have hq := hs q List.mem_cons_self
    unfold jstep
    simp only
    by_cases hj : p.1 ≤ q.2 + 1
    · rw [if_pos hj]
      refine ⟨⟨k1, ?_, ?_, k4, k5⟩, fun s hS => ?_, fun x => ?_, by simp⟩
      · show q.1 ≤ (if p.2 > q.2 then p.2 else q.2)
        split <;> omega
      · show (if p.2 > q.2 then p.2 else q.2) ≤ hi
        split <;> omega
      · rcases List.mem_cons.mp hS with rfl | hS
        · exact hq
        · exact hs s (List.mem_cons_of_mem _ hS)
      · rw [mem_cons, mem_cons]
        have : (q.1 ≤ x ∧ x ≤ (if p.2 > q.2 then p.2 else q.2)) ↔ (q.1 ≤ x ∧ x ≤ q.2) ∨ (p.1 ≤ x ∧ x ≤ p.2) := by
          split <;> omega
        show (q.1 ≤ x ∧ x ≤ (if p.2 > q.2 then p.2 else q.2)) ∨ Mem r x ↔ _
        rw [this]
        constructor
        · rintro ((h | h) | h)
          · exact .inl (.inl h)
          · exact .inr h
          · exact .inl (.inr h)
        · rintro ((h | h) | h)
          · exact .inl (.inl h)
          · exact .inr h
          · exact .inl (.inr h)
    · rw [if_neg hj, if_pos h2]
      refine ⟨⟨h1, h2, h3, fun s hS => ?_, k1, k2, k3, k4, k5⟩, fun s hS => ?_, fun x => ?_, by simp⟩
      · rcases List.mem_cons.mp hS with rfl | hS
        · omega
        · have := k4 s hS; omega
      · rcases List.mem_cons.mp hS with rfl | hS
        · exact Int.le_refl _
        · exact hs s hS
      · rw [mem_cons]
        exact Or.comm
theorem jfold_ok {lo hi : Int} : ∀ {ps acc : List Pr}, Bk lo hi acc → ps.Pairwise (fun a b => a.1 ≤ b.1) → (∀ q ∈ acc, ∀ p ∈ ps, q.1 ≤ p.1) → (∀ p ∈ ps, lo ≤ p.1 ∧ p.1 ≤ p.2 ∧ p.2 ≤ hi) →
    Bk lo hi (ps.foldl jstep acc) ∧ (∀ x, Mem (ps.foldl jstep acc) x ↔ Mem acc x ∨ Mem ps x) ∧ (ps.foldl jstep acc).length ≤ acc.length + ps.length
  | [], acc, h, _, _, _ => ⟨h, fun x => by simp [mem_nil], Nat.le_refl _⟩
  | p :: ps, acc, h, hp, hs, hb => by
    obtain ⟨b1, b2, b3⟩ := hb p List.mem_cons_self
    obtain ⟨k1, k2, k3, k4⟩ := jstep_ok h (fun q hq => hs q hq p List.mem_cons_self) b1 b2 b3
    obtain ⟨m1, m2, m3⟩ := jfold_ok (ps := ps) k1 (List.pairwise_cons.mp hp).2 (fun q hq p' hp' => Int.le_trans (k2 q hq) ((List.pairwise_cons.mp hp).1 p' hp')) fun q hq => hb q (List.mem_cons_of_mem _ hq)
    refine ⟨m1, fun x => ?_, by rw [List.length_cons]; simp only [List.foldl_cons]; omega⟩
    rw [List.foldl_cons, m2, k3, mem_cons, or_assoc]
theorem can_snoc {hi : Int} {p : Pr} : ∀ {qs : List Pr} {lo : Int}, Can lo hi qs → (∀ q ∈ qs, q.2 + 2 ≤ p.1) → lo ≤ p.1 → p.1 ≤ p.2 → p.2 ≤ hi → Can lo hi (qs ++ [p])
  | [], lo, _, _, h1, h2, h3 => ⟨h1, h2, h3, trivial⟩
  | q :: qs, lo, h, hs, h1, h2, h3 => ⟨h.1, h.2.1, h.2.2.1, can_snoc h.2.2.2 (fun q' hq => hs q' (List.mem_cons_of_mem _ hq)) (hs q List.mem_cons_self) h2 h3⟩
theorem Bk.can {lo hi : Int} : ∀ {acc : List Pr}, Bk lo hi acc → Can lo hi acc.reverse
  | [], _ => trivial
  | p :: r, h => by
    rw [List.reverse_cons]
    exact can_snoc h.2.2.2.2.can (fun q hq => h.2.2.2.1 q (List.mem_reverse.mp hq)) h.1 h.2.1 h.2.2.1
theorem mem_rev {ps : List Pr} {x : Int} : Mem ps.reverse x ↔ Mem ps x := by simp [Mem]
theorem mem_perm {ps qs : List Pr} (h : ps.Perm qs) {x : Int} : Mem ps x ↔ Mem qs x := by
  unfold Mem
  constructor
  · rintro ⟨p, hp, k⟩; exact ⟨p, h.mem_iff.mp hp, k⟩
  · rintro ⟨p, hp, k⟩; exact ⟨p, h.mem_iff.mpr hp, k⟩
/-- a list in order by its first numbers, joined -/
def join (ps : List Pr) : List Pr := (ps.foldl jstep []).reverse
theorem join_ok {lo hi : Int} {ps : List Pr} (hp : ps.Pairwise fun a b => a.1 ≤ b.1) (hb : ∀ p ∈ ps, lo ≤ p.1 ∧ p.1 ≤ p.2 ∧ p.2 ≤ hi) : Can lo hi (join ps) ∧ (∀ x, Mem (join ps) x ↔ Mem ps x) ∧ (join ps).length ≤ ps.length := by
  obtain ⟨m1, m2, m3⟩ := jfold_ok (lo := lo) (hi := hi) (acc := []) trivial hp (fun q hq => nomatch hq) hb
  refine ⟨m1.can, fun x => ?_, by unfold join; rw [List.length_reverse]; simpa using m3⟩
  unfold join
  rw [mem_rev, m2]
  simp [mem_nil]
/-! ### counting -/
def cnt (P : Int → Prop) [DecidablePred P] : Nat → Int
  | 0 => 0
  | n + 1 => cnt P n + if P n then 1 else 0
theorem cnt_ie {P Q : Int → Prop} [DecidablePred P] [DecidablePred Q] : ∀ n : Nat, cnt (fun x => P x ∨ Q x) n + cnt (fun x => P x ∧ Q x) n = cnt P n + cnt Q n
  | 0 => rfl
  | n + 1 => by
    have := cnt_ie (P := P) (Q := Q) n
    unfold cnt
    by_cases h1 : P n <;> by_cases h2 : Q n <;> simp [h1, h2] <;> omega
theorem cnt_congr {P Q : Int → Prop} [DecidablePred P] [DecidablePred Q] (h : ∀ x, P x ↔ Q x) : ∀ n : Nat, cnt P n = cnt Q n
  | 0 => rfl
  | n + 1 => by
    unfold cnt
    rw [cnt_congr h n]
    by_cases h1 : P n
    · rw [if_pos h1, if_pos ((h _).mp h1)]
    · rw [if_neg h1, if_neg fun k => h1 ((h _).mpr k)]
theorem cnt_or {P Q : Int → Prop} [DecidablePred P] [DecidablePred Q] (h : ∀ x, P x → Q x → False) : ∀ n : Nat, cnt (fun x => P x ∨ Q x) n = cnt P n + cnt Q n
  | 0 => rfl
  | n + 1 => by
    have := cnt_or h n
    unfold cnt
    by_cases h1 : P n
    · have h2 : ¬Q n := fun k => h _ h1 k
      simp [h1, h2]; omega
    · by_cases h2 : Q n <;> simp [h1, h2] <;> omega
theorem cnt_iv {a b : Int} (h0 : 0 ≤ a) (h1 : a ≤ b) : ∀ n : Nat, cnt (fun x => a ≤ x ∧ x ≤ b) n = if (n : Int) ≤ a then 0 else if (n : Int) ≤ b + 1 then n - a else b - a + 1
  | 0 => by simp [cnt]; omega
  | n + 1 => by
    unfold cnt
    rw [cnt_iv h0 h1 n]
    have e : ((n + 1 : Nat) : Int) = n + 1 := by omega
    rw [e]
    repeat' split
    all_goals omega
def tot (ps : List Pr) : Int := (ps.map fun p => p.2 - p.1 + 1).sum
instance decMem (ps : List Pr) : DecidablePred (Mem ps) := fun x => by unfold Mem; exact inferInstance
theorem tot_cnt {hi : Int} {n : Nat} (hn : hi < n) : ∀ {ps : List Pr} {lo : Int}, 0 ≤ lo → Can lo hi ps → tot ps = cnt (Mem ps) n
  | [], lo, _, _ => by
    have : ∀ m : Nat, cnt (Mem []) m = 0 := fun m => by
      induction m with
      | zero => rfl
      | succ m ih => unfold cnt; rw [ih, if_neg mem_nil]; rfl
    rw [this]; rfl
  | p :: r, lo, h0, h => by
    obtain ⟨h1, h2, h3, h4⟩ := h
    have ih := tot_cnt hn (ps := r) (by omega) h4
    rw [cnt_congr (Q := fun x => (p.1 ≤ x ∧ x ≤ p.2) ∨ Mem r x) (fun x => mem_cons), cnt_or fun x k1 k2 => by have := (h4.low k2).1; omega]
    rw [← ih, cnt_iv (by omega) h2, if_neg (by omega)]
    have e : tot (p :: r) = (p.2 - p.1 + 1) + tot r := rfl
    rw [e]
    split <;> omega
end Rn

/-! Dw: dicts with keys that have a Lean type; calls that lend one object and hand more; comprehensions that draw. -/
namespace Dm
open PySem L2 Dt
open PySem.W (Datum DatumOrd Tup T3 T4)
section
variable {κ β : Type} [DecidableEq κ] {kd : κ → D} {vd : β → D}
def enc2 (kd : κ → D) (vd : β → D) (p : κ × β) : D × D := (kd p.1, vd p.2)
def tput (ws : List (κ × β)) (k : κ) (v : β) : List (κ × β) := if (ws.any fun p => decide (p.1 = k)) = true then ws.map (fun p => if p.1 = k then (p.1, v) else p) else ws ++ [(k, v)]
def tget (ws : List (κ × β)) (k : κ) : Option β := (ws.find? fun p => decide (p.1 = k)).map (·.2)
def KEnc (kd : κ → D) : Prop := ∀ a b, kEq (kd a) (kd b) = decide (a = b)
theorem dput_enc (h : KEnc kd) (ws : List (κ × β)) (k : κ) (v : β) : dput (ws.map (enc2 kd vd)) (kd k) (vd v) = (tput ws k v).map (enc2 kd vd) := by
  unfold dput tput
  have e : ((ws.map (enc2 kd vd)).any fun p => kEq p.1 (kd k)) = ws.any fun p => decide (p.1 = k) := by
    rw [List.any_map]
    congr 1
    funext p
    exact h p.1 k
  rw [e]
  split
  · rw [List.map_map, List.map_map]
    refine List.map_congr_left fun p _ => ?_
    show (if kEq (kd p.1) (kd k) = true then (kd p.1, vd v) else enc2 kd vd p) = enc2 kd vd (if p.1 = k then (p.1, v) else p)
    rw [h]
    by_cases c : p.1 = k <;> simp [c, enc2]
  · rw [List.map_append]; rfl
theorem look_enc (h : KEnc kd) (ws : List (κ × β)) (k : κ) : look (ws.map (enc2 kd vd)) (kd k) = (tget ws k).map vd := by
  unfold look tget
  rw [List.find?_map]
  have e : ((fun p : D × D => kEq p.1 (kd k)) ∘ enc2 kd vd) = fun p => decide (p.1 = k) := by
    funext p
    exact h p.1 k
  rw [e]
  cases ws.find? fun p => decide (p.1 = k) <;> rfl
theorem tput_len (ws : List (κ × β)) (k : κ) (v : β) : (tput ws k v).length ≤ ws.length + 1 := by
  unfold tput
  split <;> simp
theorem mem_tput {ws : List (κ × β)} {k : κ} {v : β} {p : κ × β} (h : p ∈ tput ws k v) : p = (k, v) ∨ p ∈ ws := by
  unfold tput at h
  split at h
  · obtain ⟨q, hq, rfl⟩ := List.mem_map.mp h
    by_cases c : q.1 = k
    · exact .inl (by simp [c])
    · exact .inr (by simpa [c] using hq)
  · rcases List.mem_append.mp h with h | h
    · exact .inr h
    · exact .inl (List.mem_singleton.mp h)
theorem tput_keys (ws : List (κ × β)) (k : κ) (v : β) : (tput ws k v).map (·.1) = if (ws.any fun p => decide (p.1 = k)) = true then ws.map (·.1) else ws.map (·.1) ++ [k] := by
  unfold tput
  split
  · rw [List.map_map]
    refine List.map_congr_left fun p _ => ?_
    show (if p.1 = k then (p.1, v) else p).1 = p.1
    split <;> rfl
  · rw [List.map_append]; rfl
theorem tput_nodup {ws : List (κ × β)} (h : (ws.map (·.1)).Nodup) (k : κ) (v : β) : ((tput ws k v).map (·.1)).Nodup := by
  rw [tput_keys]
  split
  · exact h
  · rename_i c
    rw [List.nodup_append]
    refine ⟨h, by simp, fun a ha b hb e => c ?_⟩
    rw [List.mem_singleton.mp hb] at e
    obtain ⟨p, hp, rfl⟩ := List.mem_map.mp ha
    exact List.any_eq_true.mpr ⟨p, hp, decide_eq_true e⟩
theorem tget_some {ws : List (κ × β)} {k : κ} (h : k ∈ ws.map (·.1)) : ∃ v, tget ws k = some v ∧ (k, v) ∈ ws := by
  unfold tget
  cases e : ws.find? fun p => decide (p.1 = k) with
  | none =>
    obtain ⟨p, hp, rfl⟩ := List.mem_map.mp h
    exact absurd (List.find?_eq_none.mp e p hp) (by simp)
  | some p =>
    have h1 := List.find?_some e
    have h2 := List.mem_of_find?_eq_some e
    have h1 := of_decide_eq_true h1
    subst h1
    exact ⟨p.2, rfl, h2⟩
theorem tget_mem {ws : List (κ × β)} {k : κ} {v : β} (h : tget ws k = some v) : (k, v) ∈ ws := by
  unfold tget at h
  obtain ⟨p, hp, rfl⟩ := Option.map_eq_some_iff.mp h
  have h1 := List.find?_some hp
  have h1 := of_decide_eq_true h1
  have h2 := List.mem_of_find?_eq_some hp
  subst h1
  exact h2
end
theorem kenc_str : KEnc (fun x : Str => (.str x : D)) := fun a b => by
  unfold kEq
  simp [nkOf]
theorem kenc_int : KEnc (fun x : Int => (.int x : D)) := fun a b => by
  unfold kEq
  simp [nkOf]
theorem kenc_t3 : KEnc (fun x : T3 Int Int Int => Datum.toD x) := fun a b => by
  unfold kEq
  obtain ⟨a1, a2, a3⟩ := a
  obtain ⟨b1, b2, b3⟩ := b
  show decide (nkOf (.tuple [.int a1, .int a2, .int a3]) = nkOf (.tuple [.int b1, .int b2, .int b3])) = _
  simp [nkOf, nkAll]
theorem kvs_str {β : Type} (vd : β → D) (ws : List (Str × β)) : kvsOf (.dict (ws.map (enc2 (fun x : Str => (.str x : D)) vd))) = some (false, ws.map (enc2 (fun x : Str => (.str x : D)) vd)) := by
  cases ws <;> rfl
theorem kvs_int {β : Type} (vd : β → D) (ws : List (Int × β)) : kvsOf (.dict (ws.map (enc2 (fun x : Int => (.int x : D)) vd))) = some (false, ws.map (enc2 (fun x : Int => (.int x : D)) vd)) := by
  cases ws <;> rfl
theorem kvs_nd (kvs : List (D × D)) : kvsOf (ndD kvs) = some (true, kvs) := rfl
theorem kGood_str (x : Str) : kGood false (.str x) = true := rfl
theorem kGood_int (x : Int) : kGood false (.int x) = true := rfl
@[simp] theorem q_toD_n (kvs) : O.toD (.dnt kvs) = ndD kvs := rfl
theorem sorted_kvs {d : D} {b : Bool} {kvs : List (D × D)} (h : kvsOf d = some (b, kvs)) : gSorted [d] = gSorted [.list (kvs.map (·.1))] := by
  cases d with
  | dict l =>
    show (match kvsOf (.dict l) with | some (_, kvs) => _ | none => _) = _
    rw [h]
    rfl
  | _ => cases h
theorem str_kind (xs : List Str) : sortKind (xs.map Datum.toD) = true := by
  unfold sortKind
  rw [Bool.or_eq_true]
  refine .inr (List.all_eq_true.mpr fun d hd => ?_)
  obtain ⟨a, _, rfl⟩ := List.mem_map.mp hd
  rfl
theorem t3_kind {α β γ : Type} [DecidableEq α] [Datum α] [DecidableEq β] [Datum β] [DecidableEq γ] [Datum γ] (xs : List (T3 α β γ)) : sortKind (xs.map Datum.toD) = true := by
  unfold sortKind
  rw [Bool.or_eq_true]
  refine .inl (List.all_eq_true.mpr fun d hd => ?_)
  obtain ⟨a, _, rfl⟩ := List.mem_map.mp hd
  rfl
theorem keys_enc {κ β : Type} (kd : κ → D) (vd : β → D) (ws : List (κ × β)) : (ws.map (enc2 kd vd)).map (·.1) = (ws.map (·.1)).map kd := by
  rw [List.map_map, List.map_map]; rfl
theorem sorted_str {β : Type} (vd : β → D) (ws : List (Str × β)) : gSorted [.dict (ws.map (enc2 (fun x : Str => (.str x : D)) vd))] = some (.lst ((srt (ws.map (·.1))).map fun x : Str => (.str x : D))) := by
  rw [sorted_kvs (kvs_str vd ws), keys_enc]
  exact srt_dat (ws.map (·.1)) (str_kind _)
theorem dix_str {β : Type} (vd : β → D) (ws : List (Str × β)) (k : Str) : dIx (.dict (ws.map (enc2 (fun x : Str => (.str x : D)) vd))) (.str k) = (tget ws k).map vd := by
  have := look_enc (vd := vd) kenc_str ws k
  unfold dIx
  simp only [kvs_str, kGood_str, if_true]
  exact this
/-! own dicts -/
@[simp] theorem q_sSetD (i fi fv) (ss : SS) : sSetD i fi fv ss = match fv ss with
  | .no => .no
  | .ok d s1 => match (objAt s1 i).bind kvO with
    | some _ => match fi s1 with
      | .ok k s2 => match s2[i]? with
        | some s => match s.obj.bind kvO with
          | some (n, kvs) => if kGood n k = true ∧ kvs.length < sizeLine then .nx (s2.set i (s.put (mkO n (dput kvs k d)))) else .no
          | none => .no
        | none => .no
      | .no => .no
    | none => .no := rfl
@[simp] theorem q_nDct (ss : SS) : nDct ss = .ok (.dct []) ss := rfl
@[simp] theorem q_nDnt (ss : SS) : nDnt ss = .ok (.dnt []) ss := rfl
@[simp] theorem q_kvO_d (kvs) : kvO (.dct kvs) = some (false, kvs) := rfl
@[simp] theorem q_kvO_n (kvs) : kvO (.dnt kvs) = some (true, kvs) := rfl
@[simp] theorem q_kvO_l (ds) : kvO (.lst ds) = none := rfl
@[simp] theorem q_mkO_f (kvs) : mkO false kvs = .dct kvs := rfl
@[simp] theorem q_mkO_t (kvs) : mkO true kvs = .dnt kvs := rfl
@[simp] theorem q_kg_s (x) : kGood false (.str x) = true := rfl
@[simp] theorem q_kg_i (x) : kGood false (.int x) = true := rfl
@[simp] theorem q_eOixD (i f) (ss : SS) : eOixD i f ss = match objAt ss i with
  | some _ => (f ss).bind fun k s1 => match (objAt s1 i).bind kvO with
    | some (n, kvs) => if kGood n k = true then .of (look kvs k) s1 else .no
    | none => .no
  | none => .no := rfl
/-! calls -/
def rv4 (F : FnS) (o : O) (a b c : D) : Option (D × O) := match F [.bor o, .imm a, .imm b, .imm c] with
  | some (.imm r, [.bor u, _, _, _]) => some (r, u)
  | _ => none
theorem q_rv3 (n b a c d) : rv3 (callF n b) a c d = finR 2 (b (.bor a :: .imm c :: .imm d :: List.replicate (n - 3) .un)) := by
  unfold rv3 callF
  simp only [List.cons_append, List.nil_append, List.length_cons, List.length_nil, Nat.zero_add, Nat.reduceAdd]
  generalize b _ = o
  cases o with
  | rt r ss => rcases ss with _ | ⟨_ | _ | _ | _, _ | ⟨y, _ | ⟨z, ss⟩⟩⟩ <;> cases r <;> simp [finR]
  | nx ss => rcases ss with _ | ⟨_ | _ | _ | _, _ | ⟨y, _ | ⟨z, ss⟩⟩⟩ <;> simp [finR]
  | _ => rfl
theorem q_rv4 (n b a c d e) : rv4 (callF n b) a c d e = finR 3 (b (.bor a :: .imm c :: .imm d :: .imm e :: List.replicate (n - 4) .un)) := by
  unfold rv4 callF
  simp only [List.cons_append, List.nil_append, List.length_cons, List.length_nil, Nat.zero_add, Nat.reduceAdd]
  generalize b _ = o
  cases o with
  | rt r ss => rcases ss with _ | ⟨_ | _ | _ | _, _ | ⟨y, _ | ⟨z, _ | ⟨w, ss⟩⟩⟩⟩ <;> cases r <;> simp [finR]
  | nx ss => rcases ss with _ | ⟨_ | _ | _ | _, _ | ⟨y, _ | ⟨z, _ | ⟨w, ss⟩⟩⟩⟩ <;> simp [finR]
  | _ => rfl
theorem q_r3 (F : FnS) (i : Nat) (a b : FE) (ss : SS) : eCall F (aRef i (aCons a (aCons b aNil))) ss = match (ss[i]?).bind Sl.obj with
  | some _ => (a ss).bind fun x s0 => (b s0).bind fun y s1 => (match s1[i]? with
    | some (.own o) => (match rv3 F o x y with | some (d, u) => .ok d (s1.set i (.own u)) | none => .no)
    | some (.bor o) => (match rv3 F o x y with | some (d, u) => .ok d (s1.set i (.bor u)) | none => .no)
    | _ => .no)
  | none => .no := by
  unfold eCall aRef aCons aNil
  cases h0 : (ss[i]?).bind Sl.obj with
  | none => rfl
  | some o0 =>
    simp only
    cases a ss with
    | no => rfl
    | ok d s0 =>
      simp only [q_bind_ok]
      cases b s0 with
      | no => rfl
      | ok d2 s1 =>
        simp only [q_bind_ok]
        unfold callAt rv3
        simp only [refs, List.nodup_cons, List.nodup_nil, List.not_mem_nil, not_false_eq_true, and_self, if_true, resolve, Option.map_some]
        cases h : s1[i]? with
        | none => rfl
        | some s =>
          cases s with
          | un => rfl
          | imm d => rfl
          | own o =>
            simp only [Option.bind_some, q_obj_o]
            cases e : F [.bor o, .imm d, .imm d2] with
            | none => rfl
            | some p =>
              obtain ⟨r, _ | ⟨_ | _ | _ | _, _ | ⟨z, _ | ⟨w, _ | ⟨_, t⟩⟩⟩⟩⟩ := p <;> cases r <;> simp [putB, h]
          | bor o =>
            simp only [Option.bind_some, q_obj_b]
            cases e : F [.bor o, .imm d, .imm d2] with
            | none => rfl
            | some p =>
              obtain ⟨r, _ | ⟨_ | _ | _ | _, _ | ⟨z, _ | ⟨w, _ | ⟨_, t⟩⟩⟩⟩⟩ := p <;> cases r <;> simp [putB, h]
theorem q_r4 (F : FnS) (i : Nat) (a b c : FE) (ss : SS) : eCall F (aRef i (aCons a (aCons b (aCons c aNil)))) ss = match (ss[i]?).bind Sl.obj with
  | some _ => (a ss).bind fun x s0 => (b s0).bind fun y s1 => (c s1).bind fun z s2 => (match s2[i]? with
    | some (.own o) => (match rv4 F o x y z with | some (d, u) => .ok d (s2.set i (.own u)) | none => .no)
    | some (.bor o) => (match rv4 F o x y z with | some (d, u) => .ok d (s2.set i (.bor u)) | none => .no)
    | _ => .no)
  | none => .no := by
  unfold eCall aRef aCons aNil
  cases h0 : (ss[i]?).bind Sl.obj with
  | none => rfl
  | some o0 =>
    simp only
    cases a ss with
    | no => rfl
    | ok d s0 =>
      simp only [q_bind_ok]
      cases b s0 with
      | no => rfl
      | ok d2 s1 =>
        simp only [q_bind_ok]
        cases c s1 with
        | no => rfl
        | ok d3 s2 =>
          simp only [q_bind_ok]
          unfold callAt rv4
          simp only [refs, List.nodup_cons, List.nodup_nil, List.not_mem_nil, not_false_eq_true, and_self, if_true, resolve, Option.map_some]
          cases h : s2[i]? with
          | none => rfl
          | some s =>
            cases s with
            | un => rfl
            | imm d => rfl
            | own o =>
              simp only [Option.bind_some, q_obj_o]
              cases e : F [.bor o, .imm d, .imm d2, .imm d3] with
              | none => rfl
              | some p =>
                obtain ⟨r, _ | ⟨_ | _ | _ | _, _ | ⟨z, _ | ⟨w, _ | ⟨v, _ | ⟨_, t⟩⟩⟩⟩⟩⟩ := p <;> cases r <;> simp [putB, h]
            | bor o =>
              simp only [Option.bind_some, q_obj_b]
              cases e : F [.bor o, .imm d, .imm d2, .imm d3] with
              | none => rfl
              | some p =>
                obtain ⟨r, _ | ⟨_ | _ | _ | _, _ | ⟨z, _ | ⟨w, _ | ⟨v, _ | ⟨_, t⟩⟩⟩⟩⟩⟩ := p <;> cases r <;> simp [putB, h]
/-! a comprehension that draws as it goes -/
theorem comp_draw {α β : Type} {vs : List Nat} {g : GF} {t : FB} {e : FE} (ea : α → D) (eb : β → D) (R : Nat → SS → Prop) (P : α → β → Prop) :
    ∀ (xs : List α) (n : Nat) (ss : SS), R n ss → (∀ x ∈ xs, ∀ j ss, j < n + xs.length → R j ss → ∃ y s1, turnF vs g t e (ea x) ss = some (y.map eb, s1) ∧ (∀ z, y = some z → P x z) ∧ R (j + 1) s1) →
    ∃ (ys : List β) (s2 : SS), compF vs g t e (xs.map ea) ss = some (ys.map eb, s2) ∧ ys.length ≤ xs.length ∧ (∀ y ∈ ys, ∃ x ∈ xs, P x y) ∧ R (n + xs.length) s2
  | [], n, ss, r, h => ⟨[], ss, rfl, Nat.le_refl _, fun y hy => (nomatch hy), r⟩
  | x :: xs, n, ss, r, h => by
    obtain ⟨y, s1, h1, h2, h3⟩ := h x List.mem_cons_self n ss (by simp) r
    obtain ⟨ys, s2, k1, k2, k3, k4⟩ := comp_draw ea eb R P xs (n + 1) s1 h3 fun z hz j ss hj => h z (List.mem_cons_of_mem _ hz) j ss (by rw [List.length_cons]; omega)
    refine ⟨y.toList ++ ys, s2, ?_, ?_, ?_, by rw [List.length_cons, ← Nat.add_assoc, Nat.add_right_comm]; exact k4⟩
    · rw [List.map_cons]
      unfold compF
      rw [h1]
      simp only [k1]
      cases y <;> rfl
    · rw [List.length_append, List.length_cons]
      cases y <;> simp <;> omega
    · intro z hz
      rcases List.mem_append.mp hz with hz | hz
      · cases y with
        | none => cases hz
        | some w =>
          cases List.mem_singleton.mp hz
          exact ⟨x, List.mem_cons_self, h2 _ rfl⟩
      · obtain ⟨w, hw, p⟩ := k3 z hz
        exact ⟨w, List.mem_cons_of_mem _ hw, p⟩
/-- a filter that draws -/
theorem comp_keep {α : Type} {vs : List Nat} {g : GF} {t : FB} {e : FE} (ea eb : α → D) (R : Nat → SS → Prop) :
    ∀ (xs : List α) (n : Nat) (ss : SS), R n ss → (∀ x ∈ xs, ∀ j ss, j < n + xs.length → R j ss → ∃ (b : Bool) (s1 : SS), turnF vs g t e (ea x) ss = some (if b = true then some (eb x) else none, s1) ∧ R (j + 1) s1) →
    ∃ (ys : List α) (s2 : SS), compF vs g t e (xs.map ea) ss = some (ys.map eb, s2) ∧ ys.Sublist xs ∧ R (n + xs.length) s2
  | [], n, ss, r, h => ⟨[], ss, rfl, List.Sublist.slnil, r⟩
  | x :: xs, n, ss, r, h => by
    obtain ⟨y, s1, h1, h3⟩ := h x List.mem_cons_self n ss (by simp) r
    obtain ⟨ys, s2, k1, k2, k4⟩ := comp_keep ea eb R xs (n + 1) s1 h3 fun z hz j ss hj => h z (List.mem_cons_of_mem _ hz) j ss (by rw [List.length_cons]; omega)
    refine ⟨(if y = true then [x] else []) ++ ys, s2, ?_, ?_, by rw [List.length_cons, ← Nat.add_assoc, Nat.add_right_comm]; exact k4⟩
    · rw [List.map_cons]
      unfold compF
      rw [h1]
      simp only [k1]
      cases y <;> rfl
    · cases y
      · exact k2.cons _
      · exact k2.cons_cons _
/-- a counted loop -/
theorem loop_cnt {g : GF} {b : FS} {o : Out} {n : Nat} {ss : SS} (hL : loopF g b (rangeD 0 n) ss = o) (R : Nat → SS → Prop) (h0 : R 0 ss)
    (h : ∀ j ss, j < n → R j ss → ∃ s1 s2, g (.int (j : Int)) ss = some s1 ∧ (b s1 = .nx s2 ∨ b s1 = .ct s2) ∧ R (j + 1) s2) : ∃ s2, o = .nx s2 ∧ R n s2 := by
  have key : ∀ (m k : Nat) (ss : SS), k + m = n → R k ss → ∃ s2, loopF g b ((List.range' k m).map fun i : Nat => (.int (i : Int) : D)) ss = .nx s2 ∧ R n s2 := by
    intro m
    induction m with
    | zero => intro k ss hk hr; exact ⟨ss, rfl, by rw [← hk]; exact hr⟩
    | succ m ih =>
      intro k ss hk hr
      obtain ⟨s1, s2, h1, h2, h3⟩ := h k ss (by omega) hr
      obtain ⟨s3, h4, h5⟩ := ih (k + 1) s2 (by omega) h3
      refine ⟨s3, ?_, h5⟩
      rw [List.range'_succ, List.map_cons]
      unfold loopF
      rw [h1]
      rcases h2 with h2 | h2 <;> simp only [h2] <;> exact h4
  rw [← hL]
  have e : rangeD 0 n = (List.range' 0 n).map fun i : Nat => (.int (i : Int) : D) := by
    unfold rangeD
    rw [List.range_eq_range']
    refine List.map_congr_left fun i _ => ?_
    rw [Int.zero_add]
  rw [e]
  exact key n 0 ss (by omega) h0
theorem small_ok {r : Int} (h0 : 0 ≤ r) (h1 : r < 1000000) : small r = true := by
  unfold small
  rw [Bool.and_eq_true, decide_eq_true_eq, decide_eq_true_eq]
  have e : (2 : Int) ^ 62 = 4611686018427387904 := by decide
  rw [e]
  omega
theorem eq_str (a b : Str) : dEq (.str a) (.str b) = some (.bool (decide (a = b))) := eq_dat a b
theorem ne_str (a b : Str) : dNe (.str a) (.str b) = some (.bool (!decide (a = b))) := ne_dat a b
@[simp] theorem q_eGet (f g h) (ss : SS) : eGet f g h ss = (f ss).bind fun d s1 => (g s1).bind fun k s2 => (h s2).bind fun e s3 => .of (gGet d k e) s3 := rfl
@[simp] theorem q_eOget (i g h) (ss : SS) : eOget i g h ss = match (objAt ss i).bind kvO with
  | some _ => (g ss).bind fun k s1 => (h s1).bind fun e s2 => match (objAt s2 i).bind kvO with
    | some (n, kvs) => if kGood n k = true then .ok ((look kvs k).getD e) s2 else .no
    | none => .no
  | none => .no := rfl
@[simp] theorem q_sExt (i fn) (ss : SS) : sExt i fn ss = match objAt ss i with
  | some (.lst _) => match fn ss with
    | .ok (.lst es) s1 => match s1[i]? with
      | some s => match s.obj with
        | some (.lst ds) => if ds.length + es.length ≤ sizeLine then .nx (s1.set i (s.put (.lst (ds ++ es)))) else .no
        | _ => .no
      | none => .no
    | _ => .no
  | _ => .no := rfl
@[simp] theorem q_sPar2E (i j n1 n2) (ss : SS) : sPar2E i j n1 n2 ss = if i < ss.length ∧ j < ss.length then .nx ((ss.set i (.own (mkO n1 []))).set j (.own (mkO n2 []))) else .no := rfl
theorem get_str {β : Type} (vd : β → D) (ws : List (Str × β)) (k : Str) (e : D) : gGet (.dict (ws.map (enc2 (fun x : Str => (.str x : D)) vd))) (.str k) e = some (((tget ws k).map vd).getD e) := by
  unfold gGet
  simp only [kvs_str, kGood_str, if_true, look_enc kenc_str]
/-- a dict made by a comprehension, pure -/
theorem compK_map {α κ β : Type} [DecidableEq κ] {n : Bool} {vs : List Nat} {g : GF} {t : FB} {fk fv : FE} {ss : SS} (enc : α → D) (kd : κ → D) (vd : β → D) (p : α → Bool) (key : α → κ) (val : α → β) (hk : KEnc kd) (hg : ∀ k, kGood n (kd k) = true) :
    ∀ (xs : List α) (acc : List (κ × β)), acc.length + xs.length ≤ 16777216 → (∀ x ∈ xs, turnK vs g t fk fv (enc x) ss = some (if p x = true then some (kd (key x), vd (val x)) else none, ss)) →
    compK n vs g t fk fv (xs.map enc) ss (acc.map (enc2 kd vd)) = some (((xs.filter p).foldl (fun a x => tput a (key x) (val x)) acc).map (enc2 kd vd), ss)
  | [], acc, _, _ => rfl
  | x :: xs, acc, hl, h => by
    rw [List.length_cons] at hl
    rw [List.map_cons]
    unfold compK
    rw [h x List.mem_cons_self]
    by_cases hp : p x = true
    · rw [if_pos hp, List.filter_cons_of_pos hp, List.foldl_cons]
      simp only
      have hs : (acc.map (enc2 kd vd)).length < sizeLine := by rw [List.length_map, q_size]; omega
      rw [if_pos ⟨hg _, hs⟩, dput_enc hk]
      have := tput_len acc (key x) (val x)
      exact compK_map enc kd vd p key val hk hg xs _ (by omega) fun y hy => h y (List.mem_cons_of_mem _ hy)
    · rw [if_neg hp, List.filter_cons_of_neg hp]
      simp only
      exact compK_map enc kd vd p key val hk hg xs acc (by omega) fun y hy => h y (List.mem_cons_of_mem _ hy)
theorem nDc_map {α κ β : Type} [DecidableEq κ] {n : Bool} {vs : List Nat} {src : FL} {g : GF} {t : FB} {fk fv : FE} {ss ss1 : SS} (enc : α → D) (kd : κ → D) (vd : β → D) (p : α → Bool) (key : α → κ) (val : α → β) (xs : List α) (hs : src ss = .ok (xs.map enc) ss1)
    (h : ∀ x ∈ xs, turnK vs g t fk fv (enc x) (wipeS ss1 vs) = some (if p x = true then some (kd (key x), vd (val x)) else none, wipeS ss1 vs)) (hk : KEnc kd) (hg : ∀ k, kGood n (kd k) = true) (hl : xs.length ≤ 16777216) :
    nDc n vs src g t fk fv ss = .ok (mkO n (((xs.filter p).foldl (fun a x => tput a (key x) (val x)) []).map (enc2 kd vd))) (backS vs ss1 (wipeS ss1 vs)) := by
  unfold nDc
  rw [hs, q_bind_ok]
  have := compK_map enc kd vd p key val hk hg xs [] (by simpa using hl) h
  rw [List.map_nil] at this
  rw [this]
@[simp] theorem turnK_def (vs g t fk fv d) (ss : SS) : turnK vs g t fk fv d ss = match g d (lend ss) with
  | none => none
  | some s1 => match t s1 with
    | .no => none
    | .ok false s2 => some (none, unlend ss (wipeS s2 vs))
    | .ok true s2 => match fk s2 with
      | .no => none
      | .ok k s3 => match fv s3 with
        | .no => none
        | .ok x s4 => some (some (k, x), unlend ss (wipeS s4 vs)) := rfl
@[simp] theorem q_gStar (g d0 ds) (ss : SS) : gStar g (.tuple (d0 :: ds)) ss = g [d0, .list ds] ss := rfl
/-- a comprehension that draws, one for each -/
theorem comp_each {α β : Type} {vs : List Nat} {g : GF} {t : FB} {e : FE} (ea : α → D) (eb : β → D) (key : β → α) (R : Nat → SS → Prop) (P : β → Prop) :
    ∀ (xs : List α) (n : Nat) (ss : SS), R n ss → (∀ x ∈ xs, ∀ j ss, j < n + xs.length → R j ss → ∃ (y : β) (s1 : SS), turnF vs g t e (ea x) ss = some (some (eb y), s1) ∧ key y = x ∧ P y ∧ R (j + 1) s1) →
    ∃ (ys : List β) (s2 : SS), compF vs g t e (xs.map ea) ss = some (ys.map eb, s2) ∧ ys.map key = xs ∧ (∀ y ∈ ys, P y) ∧ R (n + xs.length) s2
  | [], n, ss, r, h => ⟨[], ss, rfl, rfl, fun y hy => (nomatch hy), r⟩
  | x :: xs, n, ss, r, h => by
    obtain ⟨y, s1, h1, h2, h3, h4⟩ := h x List.mem_cons_self n ss (by simp) r
    obtain ⟨ys, s2, k1, k2, k3, k4⟩ := comp_each ea eb key R P xs (n + 1) s1 h4 fun z hz j ss hj => h z (List.mem_cons_of_mem _ hz) j ss (by rw [List.length_cons]; omega)
    refine ⟨y :: ys, s2, ?_, by rw [List.map_cons, h2, k2], fun z hz => ?_, by rw [List.length_cons, ← Nat.add_assoc, Nat.add_right_comm]; exact k4⟩
    · rw [List.map_cons]
      unfold compF
      rw [h1]
      simp only [k1]
      rfl
    · rcases List.mem_cons.mp hz with rfl | hz
      · exact h3
      · exact k3 z hz
theorem srt_strict {α : Type} [DecidableEq α] [DatumOrd α] (tri : ∀ {a b : α}, DatumOrd.lt b a = false → a ≠ b → DatumOrd.lt a b = true) {xs : List α} (h : xs.Nodup) : (srt xs).Pairwise fun a b => DatumOrd.lt a b = true := by
  have h1 := srt_pair xs
  have h2 : (srt xs).Nodup := (srt_perm xs).nodup_iff.mpr h
  exact (h1.and h2).imp fun ⟨a, b⟩ => tri a b
theorem int_tri {a b : Int} (h : DatumOrd.lt b a = false) (hn : a ≠ b) : DatumOrd.lt a b = true := by
  have h : decide (b < a) = false := h
  show decide (a < b) = true
  simp at h ⊢
  omega
theorem t3_tri {a b : T3 Int Int Int} (h : DatumOrd.lt b a = false) (hn : a ≠ b) : DatumOrd.lt a b = true := by
  obtain ⟨a1, a2, a3⟩ := a
  obtain ⟨b1, b2, b3⟩ := b
  have h : (if b1 = a1 then (if b2 = a2 then decide (b3 < a3) else decide (b2 < a2)) else decide (b1 < a1)) = false := h
  show (if a1 = b1 then (if a2 = b2 then decide (a3 < b3) else decide (a2 < b2)) else decide (a1 < b1)) = true
  by_cases e1 : a1 = b1
  · subst e1
    by_cases e2 : a2 = b2
    · subst e2
      by_cases e3 : a3 = b3
      · subst e3; exact absurd rfl hn
      · simp at h ⊢; omega
    · simp [e2, Ne.symm e2] at h ⊢; omega
  · simp [e1, Ne.symm e1] at h ⊢; omega
theorem t3_irr (a : T3 Int Int Int) : DatumOrd.lt a a = false := by
  obtain ⟨a1, a2, a3⟩ := a
  show (if a1 = a1 then (if a2 = a2 then decide (a3 < a3) else decide (a2 < a2)) else decide (a1 < a1)) = false
  simp
theorem sorted_t3 {β : Type} (vd : β → D) (ws : List (T3 Int Int Int × β)) : gSorted [ndD (ws.map (enc2 (fun x : T3 Int Int Int => Datum.toD x) vd))] = some (.lst ((srt (ws.map (·.1))).map fun x : T3 Int Int Int => Datum.toD x)) := by
  rw [sorted_kvs (kvs_nd _), keys_enc]
  exact srt_dat (ws.map (·.1)) (t3_kind _)
theorem kGood_t3 (x : T3 Int Int Int) : kGood true (Datum.toD x) = true := by
  obtain ⟨a, b, c⟩ := x
  rfl
@[simp] theorem q_eCallP (F k a) (ss : SS) : eCallP F k a ss = (a ss).bind fun as s1 => match as[k]? with
  | some (.ref i) => match objAt s1 i with
    | some o => if refs (as.set k (.d o.toD)) = [] then (match callAt F (as.set k (.d o.toD)) s1 with
      | some (.imm d, _) => if flat d = true then .ok d s1 else .no
      | _ => .no) else .no
    | none => .no
  | _ => .no := rfl
theorem callAt_2 {F : FnS} {a b r : D} {ss : SS} (h : ev2 F a b = some r) : callAt F [.d a, .d b] ss = some (.imm r, ss) := by
  unfold ev2 at h
  split at h
  · rename_i e
    cases h
    unfold callAt
    simp only [refs, List.nodup_nil, if_true, resolve, Option.map_some, Option.bind_some, e]
    rfl
  · cases h
@[simp] theorem q_lEnumA (f : FL) (ss : SS) : lEnumA f ss = (f ss).bind fun d s1 => match d with
  | [.list xs] => .ok (enumD xs) s1
  | [.tuple xs] => .ok (enumD xs) s1
  | _ => .no := rfl
theorem enum_eq (ds : List D) : enumD ds = (List.range ds.length).map fun i : Nat => (.tuple [.int (i : Int), (ds[i]?).getD .none] : D) := by
  apply List.ext_getElem?
  intro i
  rw [List.getElem?_map]
  by_cases h : i < ds.length
  · have e : (enumD ds)[i]? = some (.tuple [.int (i : Int), ds[i]]) := by
      unfold enumD
      rw [List.getElem?_zipWith, List.getElem?_range h, List.getElem?_eq_getElem h]
    rw [e, List.getElem?_range h]
    simp [h]
  · have e : (enumD ds)[i]? = none := by
      unfold enumD
      rw [List.getElem?_zipWith, List.getElem?_eq_none (by rw [List.length_range]; omega)]
    rw [e, List.getElem?_eq_none (by rw [List.length_range]; omega)]
    rfl
@[simp] theorem q_is2_n (T U) : dIs2 T U .none = some (.bool false) := rfl
@[simp] theorem q_is2_b (T U b) : dIs2 T U (.bool b) = some (.bool ((T == "int" || T == "bool") || (U == "int" || U == "bool"))) := rfl
@[simp] theorem q_is2_i (T U i) : dIs2 T U (.int i) = some (.bool (T == "int" || U == "int")) := rfl
@[simp] theorem q_is2_s (T U x) : dIs2 T U (.str x) = some (.bool (T == "str" || U == "str")) := rfl
@[simp] theorem q_is2_l (T U x) : dIs2 T U (.list x) = some (.bool (T == "list" || U == "list")) := rfl
@[simp] theorem q_is2_t (T U x) : dIs2 T U (.tuple x) = some (.bool (T == "tuple" || U == "tuple")) := rfl
end Dm

/-! Dx: texts: how long they are. -/
namespace Dm
open PySem L2 Dt
open TL (tl)
@[simp] theorem len_app (x y : Str) : (x ++ y).length = x.length + y.length := by
  rw [TL.len_tl, TL.tl_append, List.length_append, ← TL.len_tl, ← TL.len_tl]
def sn (a : Int) : Str := Str.ofString (toString a)
theorem sn_tl {a : Int} (h0 : 0 ≤ a) : tl (sn a) = TL.numL a.toNat := by
  have := TL.tl_num a.toNat
  rw [Int.toNat_of_nonneg h0] at this
  exact this
theorem sn_len {a : Int} (h0 : 0 ≤ a) (h1 : a ≤ 99) : 1 ≤ (sn a).length ∧ (sn a).length ≤ 2 := by
  rw [TL.len_tl, sn_tl h0]
  refine ⟨?_, TL.numL_len (by decide) (by omega)⟩
  have := TL.numL_ne a.toNat
  cases e : TL.numL a.toNat with
  | nil => exact absurd e this
  | cons _ _ => simp
theorem log1920 {n : Nat} (h : n < 18446744073709551616) : n.log2 < 1920 := by
  by_cases h0 : n = 0
  · rw [h0]; decide
  · have : n.log2 < 64 := (Nat.log2_lt h0).mpr h
    omega
theorem gstr {a : Int} (h : a.natAbs < 18446744073709551616) : gStr [.int a] = some (.str (sn a)) := by
  unfold gStr
  simp only [if_pos (log1920 h)]
  rfl
theorem jd_int {f : FE} {x : Int} {ss s1 : SS} (h : x.natAbs < 18446744073709551616) (hf : f ss = .ok (.int x) s1) : jD f ss = .ok (.str (sn x)) s1 := by
  unfold jD
  rw [hf]
  show (if x.natAbs.log2 < 1920 then Res.ok (PyData.str (toString x)) s1 else Res.no) = _
  rw [if_pos (log1920 h)]
  rfl
theorem jd_str {f : FE} {x : Str} {ss s1 : SS} (h : x.length ≤ 16777216) (hf : f ss = .ok (.str x) s1) : jD f ss = .ok (.str x) s1 := by
  unfold jD
  rw [hf]
  show (if x.length ≤ sizeLine then Res.ok (PyData.str x) s1 else Res.no) = _
  rw [q_size, if_pos h]
theorem join_len (x : Str) : ∀ ys : List Str, (Txt.join x ys).length ≤ (ys.map (·.length)).sum + ys.length * x.length := fun ys => by
  rw [TL.join_eq]
  induction ys with
  | nil => exact Nat.zero_le _
  | cons y ys ih =>
    cases ys with
    | nil =>
      show y.length ≤ y.length + 0 + (0 + 1) * x.length
      omega
    | cons z r =>
      show (y ++ x ++ Str.join x (z :: r)).length ≤ _
      rw [len_app, len_app, List.map_cons, List.sum_cons, List.length_cons, Nat.succ_mul]
      omega
theorem sum_le {B : Nat} : ∀ {ys : List Str}, (∀ y ∈ ys, y.length ≤ B) → (ys.map (·.length)).sum ≤ ys.length * B
  | [], _ => Nat.zero_le _
  | y :: ys, h => by
    have h1 := h y List.mem_cons_self
    have h2 := sum_le fun z hz => h z (List.mem_cons_of_mem y hz)
    rw [List.map_cons, List.sum_cons, List.length_cons, Nat.succ_mul]
    omega
theorem asS_all (ys : List Str) : (ys.map fun y => (.str y : D)).mapM asS = some ys := by
  induction ys with
  | nil => rfl
  | cons y ys ih => rw [List.map_cons, List.mapM_cons, ih]; rfl
theorem gjoin_l {x : Str} {ys : List Str} {B : Nat} (h : ∀ y ∈ ys, y.length ≤ B) (hB : ys.length * B + ys.length * x.length ≤ 16777216) :
    gJoin x (.list (ys.map fun y => .str y)) = some (.str (Txt.join x ys)) ∧ (Txt.join x ys).length ≤ ys.length * B + ys.length * x.length := by
  have h1 := sum_le h
  have h2 := join_len x ys
  refine ⟨?_, by omega⟩
  show ((ys.map fun y => (.str y : D)).mapM asS).bind _ = _
  rw [asS_all, Option.bind_some, if_pos (by omega)]
theorem gjoin_t {x : Str} {ys : List Str} {B : Nat} (h : ∀ y ∈ ys, y.length ≤ B) (hB : ys.length * B + ys.length * x.length ≤ 16777216) :
    gJoin x (.tuple (ys.map fun y => .str y)) = some (.str (Txt.join x ys)) ∧ (Txt.join x ys).length ≤ ys.length * B + ys.length * x.length := by
  have h1 := sum_le h
  have h2 := join_len x ys
  refine ⟨?_, by omega⟩
  show ((ys.map fun y => (.str y : D)).mapM asS).bind _ = _
  rw [asS_all, Option.bind_some, if_pos (by omega)]
theorem fold_len (x : Str) : (foldS x).length ≤ 9 * x.length + 8 := by
  unfold foldS
  have h1 := TK.replace_len x "~" "~~"
  have h2 := TK.replace_len (Txt.replace x "~" "~~") "\n" "~n"
  have e1 : (("~~" : Str)).length = 2 := rfl
  have e2 : (("~n" : Str)).length = 2 := rfl
  rw [e1] at h1
  rw [e2] at h2
  omega
theorem rev_len (z : Str) : (revS z).length = z.length := by
  show (z.cps.toList.reverse.toArray).size = z.cps.size
  rw [List.size_toArray, List.length_reverse, Array.length_toList]
@[simp] theorem q_eFold (f) (ss : SS) : eFold f ss = (f ss).bind fun d s1 => match d with
  | .str x => if x.length ≤ 100000 then .ok (.str (foldS x)) s1 else .no
  | _ => .no := rfl
@[simp] theorem q_jD (f) (ss : SS) : jD f ss = (f ss).bind fun d s1 => match d with
  | .str y => if y.length ≤ sizeLine then .ok (.str y) s1 else .no
  | .int i => if i.natAbs.log2 < 1920 then .ok (.str (toString i)) s1 else .no
  | _ => .no := rfl
theorem q_ts (i : Int) : (Str.ofString (toString i)) = sn i := rfl
@[simp] theorem len_of (s : String) : (Str.ofString s).length = s.toList.length := by
  rw [TL.len_tl, TL.tl_ofString, List.length_map]
theorem adds_ok {x y : Str} (h : x.length + y.length ≤ 16777216) : dAdd (.str x) (.str y) = some (.str (x ++ y)) := by
  rw [q_adds, q_fits, q_size, if_pos h]
@[simp] theorem q_eJ (fs) (ss : SS) : eJ fs ss = (jsF fs Str.empty ss).bind fun x s1 => .ok (.str x) s1 := rfl
@[simp] theorem q_jsN (acc) (ss : SS) : jsF [] acc ss = .ok acc ss := rfl
@[simp] theorem q_jsC (f fs acc) (ss : SS) : jsF (f :: fs) acc ss = (f ss).bind fun d s1 => match d with
  | .str y => if (acc ++ y).length ≤ sizeLine then jsF fs (acc ++ y) s1 else .no
  | _ => .no := rfl
@[simp] theorem len_empty : Str.empty.length = 0 := rfl
theorem js1 {f : FE} {fs : List FE} {acc y : Str} {ss s1 : SS} (hf : f ss = .ok (.str y) s1) (h : acc.length + y.length ≤ 16777216) : jsF (f :: fs) acc ss = jsF fs (acc ++ y) s1 := by
  rw [q_jsC, hf, q_bind_ok]
  simp only [len_app, q_size, if_pos h]
theorem if_le {α : Type} {n k : Nat} {a b : α} (h : n ≤ k) : (if n ≤ k then a else b) = a := if_pos h
theorem if_sz {α : Type} {n : Nat} {a b : α} (h : n ≤ 16777216) : (if n ≤ sizeLine then a else b) = a := if_pos h
theorem if_sl {α : Type} {n : Nat} {a b : α} (h : n < 16777216) : (if n < sizeLine then a else b) = a := if_pos h
theorem if_lt {α : Type} {n k : Nat} {a b : α} (h : n < k) : (if n < k then a else b) = a := if_pos h
theorem if_log {α : Type} {i : Int} {a b : α} (h : i.natAbs < 18446744073709551616) : (if i.natAbs.log2 < 1920 then a else b) = a := if_pos (log1920 h)
theorem rp_sn (i : Int) : (Str.ofString i.repr) = sn i := rfl
theorem pick_f {α : Type} {P : α → Str → Prop} {xs : List α} (h : ∀ x ∈ xs, ∃ t, P x t) : ∃ f : α → Str, ∀ x ∈ xs, P x (f x) := by
  have h2 : ∀ x, ∃ t, x ∈ xs → P x t := fun x => by
    by_cases hx : x ∈ xs
    · obtain ⟨t, ht⟩ := h x hx
      exact ⟨t, fun _ => ht⟩
    · exact ⟨Str.empty, fun k => absurd k hx⟩
  obtain ⟨f, hf⟩ := Classical.axiomOfChoice h2
  exact ⟨f, hf⟩
end Dm

/-! Dw3: more on typed dicts. -/
namespace Dm
open PySem L2 Dt
open PySem.W (Datum DatumOrd Tup T3 T4)
theorem tput_new {κ β : Type} [DecidableEq κ] {ws : List (κ × β)} {k : κ} (h : k ∉ ws.map (·.1)) (v : β) : tput ws k v = ws ++ [(k, v)] := by
  unfold tput
  rw [if_neg]
  intro c
  obtain ⟨p, hp, e⟩ := List.any_eq_true.mp c
  exact h (List.mem_map.mpr ⟨p, hp, of_decide_eq_true e⟩)
theorem tputs_app {κ β : Type} [DecidableEq κ] : ∀ (es acc : List (κ × β)), ((acc ++ es).map (·.1)).Nodup → es.foldl (fun a x => tput a x.1 x.2) acc = acc ++ es
  | [], acc, _ => by simp
  | e :: es, acc, h => by
    rw [List.foldl_cons, tput_new, tputs_app es]
    · simp
    · simpa using h
    · intro c
      rw [List.map_append, List.nodup_append] at h
      exact h.2.2 _ c _ List.mem_cons_self rfl
theorem tputs_eq {κ β : Type} [DecidableEq κ] (es : List (κ × β)) (h : (es.map (·.1)).Nodup) : es.foldl (fun a x => tput a x.1 x.2) [] = es := by
  simpa using tputs_app es [] (by simpa using h)
theorem tputs_map {α κ β : Type} [DecidableEq κ] (f : α → κ) (g : α → β) (l : List α) (h : (l.map f).Nodup) : l.foldl (fun a x => tput a (f x) (g x)) [] = l.map fun x => (f x, g x) := by
  have := tputs_eq (l.map fun x => (f x, g x)) (by rw [List.map_map]; exact h)
  rw [List.foldl_map] at this
  exact this
theorem nodup_inj {α β : Type} (f : α → β) : ∀ {l : List α}, (l.map f).Nodup → ∀ {a b : α}, a ∈ l → b ∈ l → f a = f b → a = b
  | x :: l, h, a, b, ha, hb, e => by
    rw [List.map_cons, List.nodup_cons] at h
    rcases List.mem_cons.mp ha with ha | ha <;> rcases List.mem_cons.mp hb with hb | hb
    · rw [ha, hb]
    · exact absurd (by rw [← ha, e]; exact List.mem_map_of_mem hb) h.1
    · exact absurd (by rw [← hb, ← e]; exact List.mem_map_of_mem ha) h.1
    · exact nodup_inj f h.2 ha hb e
theorem tget_map {α κ β : Type} [DecidableEq κ] (f : α → κ) (g : α → β) (l : List α) (k : κ) : tget (l.map fun x => (f x, g x)) k = (l.find? fun x => decide (f x = k)).map g := by
  unfold tget
  rw [List.find?_map]
  cases e : l.find? fun x => decide (f x = k) with
  | none =>
    have : l.find? ((fun p : κ × β => decide (p.1 = k)) ∘ fun x => (f x, g x)) = none := e
    rw [this]; rfl
  | some x =>
    have : l.find? ((fun p : κ × β => decide (p.1 = k)) ∘ fun x => (f x, g x)) = some x := e
    rw [this]; rfl
theorem dix_n (kvs : List (D × D)) (k : D) : dIx (ndD kvs) k = if kGood true k = true then look kvs k else none := rfl
theorem dix_nd {κ β : Type} [DecidableEq κ] {kd : κ → D} {vd : β → D} (h : KEnc kd) (hg : ∀ k, kGood true (kd k) = true) (ws : List (κ × β)) (k : κ) : dIx (ndD (ws.map (enc2 kd vd))) (kd k) = (tget ws k).map vd := by
  rw [dix_n, if_pos (hg k), look_enc h]
theorem gget_n (kvs : List (D × D)) (k e : D) : gGet (ndD kvs) k e = if kGood true k = true then some ((look kvs k).getD e) else none := rfl
theorem gget_nd {κ β : Type} [DecidableEq κ] {kd : κ → D} {vd : β → D} (h : KEnc kd) (hg : ∀ k, kGood true (kd k) = true) (ws : List (κ × β)) (k : κ) (e : D) : gGet (ndD (ws.map (enc2 kd vd))) (kd k) e = some (((tget ws k).map vd).getD e) := by
  rw [gget_n, if_pos (hg k), look_enc h]
theorem list_str {β : Type} (vd : β → D) (ws : List (Str × β)) : gList [.dict (ws.map (enc2 (fun x : Str => (.str x : D)) vd))] = some (.lst ((ws.map (·.1)).map fun x => .str x)) := by
  have : gList [.dict (ws.map (enc2 (fun x : Str => (.str x : D)) vd))] = (kvsOf (.dict (ws.map (enc2 (fun x : Str => (.str x : D)) vd)))).map fun p => .lst (p.2.map (·.1)) := rfl
  rw [this, kvs_str, Option.map_some, keys_enc]
/-- for cell in ([0] + script)[:k] -/
theorem law_end2 {N : Nat} {k : Int} {B : FS} {bd : FS} {ns : List Int} (hB : B = sSeq (sFor (lSeq (eSl (eOp dAdd (eFz (nLst (lCons (eC (.int 0)) lNil))) (eV 0)) oNone (oSome (eC (.int k))))) (gN 1) bd) (sRet (eC (.bool true))))
    (R : SS → Prop) (h0 : R (.imm (.list (ns.map .int)) :: List.replicate (N - 1) .un)) (h : ∀ (x : Int) (ss : SS), R ss → ∃ s1 s2, gN 1 (.int x) ss = some s1 ∧ (bd s1 = .nx s2 ∨ bd s1 = .ct s2) ∧ R s2) (hn : ns.length ≤ 63) :
    ∃ args, callF N B [.imm (.list (ns.map .int))] = some (.imm (.bool true), args) := by
  obtain ⟨cells, hcut⟩ : ∃ cells : List Int, (cutD (.int 0 :: ns.map .int) none (some k) : List D) = cells.map .int := by
    unfold cutD
    rw [show (.int 0 :: ns.map .int : List D) = (0 :: ns).map .int from rfl, ← List.map_drop, ← List.map_take]
    exact ⟨_, rfl⟩
  obtain ⟨s2, h1, h2⟩ := loop_inv (g := gN 1) (b := bd) (fun n : Int => (.int n : D)) (fun _ ss => R ss) (fun x _ ss hR => h x ss hR) cells _ h0
  have hs : dSl (.list (.int 0 :: ns.map .int)) none (some k) = some (.list (cutD (.int 0 :: ns.map .int) none (some k))) := rfl
  have hBB : B (.imm (.list (ns.map .int)) :: List.replicate (N - 1) .un) = .rt (.imm (.bool true)) s2 := by
    rw [hB]
    have h1' : loopF (gN 1) bd (cutD (.int 0 :: ns.map .int) none (some k)) (.imm (.list (ns.map .int)) :: List.replicate (N - 1) .un) = .nx s2 := by rw [hcut]; exact h1
    have hle : 1 + ns.length ≤ 16777216 := by omega
    have hle3 : ns.length + 1 ≤ 16777216 := by omega
    simp [oSome, hs, hle, hle3, h1']
  refine ⟨s2.take 1, ?_⟩
  show (match B (.imm (.list (ns.map .int)) :: List.replicate (N - 1) .un) with | .rt r ss => _ | .nx ss => _ | _ => _) = _
  rw [hBB]
  rfl
end Dm

set_option maxHeartbeats 2000000
namespace G
open PySem PySem.Spec L2 Dt
open PyProof.Rows hiding St
def top (i : Nat) : Stmt := PySem.Challenge.pw_wareyard_k33_whole_bounds_read_together.main.body.getD i (.Pass ⟨0, 0, 0, 0⟩)
def k_MOST : D := (.int 99)
def k_LAST : D := (.tuple [(.int 99), (.int 99), (.int 99)])
def k_FIGURES : D := (.str (Str.ofString "0123456789"))
def k_FIRST : D := (.tuple [(.int 0), (.int 0), (.int 0)])
def k_ANY : D := (.tuple [(.tuple [k_FIRST, k_LAST])])
def k_NONE : D := (.tuple [])
def k_MOST_BOUNDS : D := (.int 4)
abbrev S_place_of_0 : FS := (sRet (eOp dAdd (eOp dAdd (eOp dMul (eOp dIx (eV 0) (eC (.int 0))) (eC (.int 10000))) (eOp dMul (eOp dIx (eV 0) (eC (.int 1))) (eC (.int 100)))) (eOp dIx (eV 0) (eC (.int 2)))))
abbrev s_place_of : Stmt := top 4
theorem sc_place_of : FnScope ["edition"] ["edition"] (defScope s_place_of) := ⟨rfl, rfl, rfl, by decide +kernel, rfl, by decide +kernel, by decide +kernel⟩
def B_place_of : FS := S_place_of_0
def F_place_of : FnS := callF 1 B_place_of
abbrev S_edition_at_0 : FS := (sRet (eTup (lCons (eOp dDiv (eV 0) (eC (.int 10000))) (lCons (eOp dMod (eOp dDiv (eV 0) (eC (.int 100))) (eC (.int 100))) (lCons (eOp dMod (eV 0) (eC (.int 100))) lNil)))))
abbrev s_edition_at : Stmt := top 5
theorem sc_edition_at : FnScope ["place"] ["place"] (defScope s_edition_at) := ⟨rfl, rfl, rfl, by decide +kernel, rfl, by decide +kernel, by decide +kernel⟩
def B_edition_at : FS := S_edition_at_0
def F_edition_at : FnS := callF 1 B_edition_at
abbrev S_follows_0 : FS := (sRet (eIf (bOf (eOp dEq (eV 0) (eC k_LAST))) (eC .none) (eCall F_edition_at (aCons (eOp dAdd (eCall F_place_of (aCons (eV 0) aNil)) (eC (.int 1))) aNil))))
abbrev s_follows : Stmt := top 6
theorem sc_follows : FnScope ["edition"] ["edition"] (defScope s_follows) := ⟨rfl, rfl, rfl, by decide +kernel, rfl, by decide +kernel, by decide +kernel⟩
def B_follows : FS := S_follows_0
def F_follows : FnS := callF 1 B_follows
abbrev S_show_edition_0 : FS := (sRet (eJ ((jD (eOp dIx (eV 0) (eC (.int 0)))) :: ((eC (.str (Str.ofString "."))) :: ((jD (eOp dIx (eV 0) (eC (.int 1)))) :: ((eC (.str (Str.ofString "."))) :: ((jD (eOp dIx (eV 0) (eC (.int 2)))) :: [])))))))
abbrev s_show_edition : Stmt := top 7
theorem sc_show_edition : FnScope ["edition"] ["edition"] (defScope s_show_edition) := ⟨rfl, rfl, rfl, by decide +kernel, rfl, by decide +kernel, by decide +kernel⟩
def B_show_edition : FS := S_show_edition_0
def F_show_edition : FnS := callF 1 B_show_edition
abbrev S_number_in_0_a0 : FS := (sRet (eC .none))
abbrev S_number_in_0 : FS := (sIf (bOr (bNot (bOf (eCh dLe dLe (eC (.int 1)) (eCB gLen (lCons (eV 0) lNil)) (eCB gLen (lCons (eCB gStr (lCons (eV 1) lNil)) lNil))))) (bNot (bOf (eCB gAll (lCons (eFz (nLc [2] (lSeq (eV 0)) (gN 2) bYes (eOp dIn (eV 2) (eC k_FIGURES)))) lNil))))) S_number_in_0_a0 sNil)
abbrev S_number_in_1_a0 : FS := (sRet (eC .none))
abbrev S_number_in_1 : FS := (sIf (bOr (bAnd (bOf (eOp dEq (eOp dIx (eV 0) (eC (.int 0))) (eC (.str (Str.ofString "0"))))) (bOf (eOp dNe (eV 0) (eC (.str (Str.ofString "0")))))) (bOf (eOp dGt (eCB gInt (lCons (eV 0) lNil)) (eV 1)))) S_number_in_1_a0 sNil)
abbrev S_number_in_2 : FS := (sRet (eCB gInt (lCons (eV 0) lNil)))
abbrev s_number_in : Stmt := top 8
theorem sc_number_in : FnScope ["word", "most", "sign"] ["word", "most"] (defScope s_number_in) := ⟨rfl, rfl, rfl, by decide +kernel, rfl, by decide +kernel, by decide +kernel⟩
def B_number_in : FS := (sSeq S_number_in_0
    (sSeq S_number_in_1
    S_number_in_2))
def F_number_in : FnS := callF 3 B_number_in
abbrev S_read_edition_0 : FS := (sAsg (eFz (nLc [2] (lSeq (eFz (nM1 gSplit (eV 0) (eC (.str (Str.ofString ".")))))) (gN 2) bYes (eCall F_number_in (aCons (eV 2) (aCons (eC k_MOST) aNil))))) (gN 1))
abbrev S_read_edition_1 : FS := (sRet (eIf (bAnd (bOf (eOp dEq (eCB gLen (lCons (eV 1) lNil)) (eC (.int 3)))) (bOf (eOp dNin (eC .none) (eV 1)))) (eCB gTuple (lCons (eV 1) lNil)) (eC .none)))
abbrev s_read_edition : Stmt := top 9
theorem sc_read_edition : FnScope ["text", "parts", "word"] ["text"] (defScope s_read_edition) := ⟨rfl, rfl, rfl, by decide +kernel, rfl, by decide +kernel, by decide +kernel⟩
def B_read_edition : FS := (sSeq S_read_edition_0
    S_read_edition_1)
def F_read_edition : FnS := callF 3 B_read_edition
abbrev S_spans_of_0 : FS := (sRet (eFz (nLc [1, 2] (lSeq (eV 0)) (gTup 2 (gCons (gN 1) (gCons (gN 2) gNil))) bYes (eTup (lCons (eCall F_place_of (aCons (eV 1) aNil)) (lCons (eCall F_place_of (aCons (eV 2) aNil)) lNil))))))
abbrev s_spans_of : Stmt := top 18
theorem sc_spans_of : FnScope ["one", "low", "high"] ["one"] (defScope s_spans_of) := ⟨rfl, rfl, rfl, by decide +kernel, rfl, by decide +kernel, by decide +kernel⟩
def B_spans_of : FS := S_spans_of_0
def F_spans_of : FnS := callF 3 B_spans_of
abbrev S_joined_0 : FS := (sOwn (nLst lNil) 1)
abbrev S_joined_1_0_a0 : FS := (sSetL 1 (eUn dNeg (eC (.int 1))) (eTup (lCons (eOp dIx (eOix 1 (eUn dNeg (eC (.int 1)))) (eC (.int 0))) (lCons (eCB gMax (lCons (eOp dIx (eOix 1 (eUn dNeg (eC (.int 1)))) (eC (.int 1))) (lCons (eV 3) lNil))) lNil))))
abbrev S_joined_1_0_b0_a0 : FS := (sApp 1 (eTup (lCons (eV 2) (lCons (eV 3) lNil))))
abbrev S_joined_1_0_b0 : FS := (sIf (bOf (eOp dLe (eV 2) (eV 3))) S_joined_1_0_b0_a0 sNil)
abbrev S_joined_1_0 : FS := (sIf (bAnd (bOf (ePkL dNe 1 (eFz (nLst lNil)))) (bOf (eOp dLe (eV 2) (eOp dAdd (eOp dIx (eOix 1 (eUn dNeg (eC (.int 1)))) (eC (.int 1))) (eC (.int 1)))))) S_joined_1_0_a0 S_joined_1_0_b0)
abbrev S_joined_1 : FS := (sFor (lSeq (eFz (nCB gSorted (lCons (eV 0) lNil)))) (gTup 2 (gCons (gN 2) (gCons (gN 3) gNil))) S_joined_1_0)
abbrev S_joined_2 : FS := (sRet (eCB gTuple (lCons (eFz (nLc [2, 3] (lSeq (eVF 1)) (gTup 2 (gCons (gN 2) (gCons (gN 3) gNil))) bYes (eTup (lCons (eCall F_edition_at (aCons (eV 2) aNil)) (lCons (eCall F_edition_at (aCons (eV 3) aNil)) lNil))))) lNil)))
abbrev s_joined : Stmt := top 19
theorem sc_joined : FnScope ["spans", "found", "low", "high"] ["spans"] (defScope s_joined) := ⟨rfl, rfl, rfl, by decide +kernel, rfl, by decide +kernel, by decide +kernel⟩
def B_joined : FS := (sSeq S_joined_0
    (sSeq S_joined_1
    S_joined_2))
def F_joined : FnS := callF 4 B_joined
abbrev S_both_0 : FS := (sAsg (eFz (nLc2 [3, 4] [4] (lSeq (eCall F_spans_of (aCons (eV 0) aNil))) (gN 3) bYes (lSeq (eCall F_spans_of (aCons (eV 1) aNil))) (gN 4) bYes (eTup (lCons (eCB gMax (lCons (eOp dIx (eV 3) (eC (.int 0))) (lCons (eOp dIx (eV 4) (eC (.int 0))) lNil))) (lCons (eCB gMin (lCons (eOp dIx (eV 3) (eC (.int 1))) (lCons (eOp dIx (eV 4) (eC (.int 1))) lNil))) lNil))))) (gN 2))
abbrev S_both_1 : FS := (sRet (eCall F_joined (aCons (eFz (nLc [5] (lSeq (eV 2)) (gN 5) (bOf (eOp dLe (eOp dIx (eV 5) (eC (.int 0))) (eOp dIx (eV 5) (eC (.int 1))))) (eV 5))) aNil)))
abbrev s_both : Stmt := top 20
theorem sc_both : FnScope ["one", "other", "spans", "a", "b", "span"] ["one", "other"] (defScope s_both) := ⟨rfl, rfl, rfl, by decide +kernel, rfl, by decide +kernel, by decide +kernel⟩
def B_both : FS := (sSeq S_both_0
    S_both_1)
def F_both : FnS := callF 6 B_both
abbrev S_either_0 : FS := (sRet (eCall F_joined (aCons (eOp dAdd (eCall F_spans_of (aCons (eV 0) aNil)) (eCall F_spans_of (aCons (eV 1) aNil))) aNil)))
abbrev s_either : Stmt := top 21
theorem sc_either : FnScope ["one", "other"] ["one", "other"] (defScope s_either) := ⟨rfl, rfl, rfl, by decide +kernel, rfl, by decide +kernel, by decide +kernel⟩
def B_either : FS := S_either_0
def F_either : FnS := callF 2 B_either
abbrev S_rest_0 : FS := (sOwn (nLst lNil) 1)
abbrev S_rest_1 : FS := (sAsg (eC (.int 0)) (gN 2))
abbrev S_rest_2_0 : FS := (sApp 1 (eTup (lCons (eV 2) (lCons (eOp dSub (eV 3) (eC (.int 1))) lNil))))
abbrev S_rest_2_1 : FS := (sAsg (eOp dAdd (eV 4) (eC (.int 1))) (gN 2))
abbrev L_rest_2 : FS := (sSeq S_rest_2_0
    S_rest_2_1)
abbrev S_rest_2 : FS := (sFor (lSeq (eCall F_spans_of (aCons (eV 0) aNil))) (gTup 2 (gCons (gN 3) (gCons (gN 4) gNil))) L_rest_2)
abbrev S_rest_3 : FS := (sApp 1 (eTup (lCons (eV 2) (lCons (eCall F_place_of (aCons (eC k_LAST) aNil)) lNil))))
abbrev S_rest_4 : FS := (sRet (eCall F_joined (aCons (eFz (nLc [5] (lSeq (eVF 1)) (gN 5) (bOf (eOp dLe (eOp dIx (eV 5) (eC (.int 0))) (eOp dIx (eV 5) (eC (.int 1))))) (eV 5))) aNil)))
abbrev s_rest : Stmt := top 22
theorem sc_rest : FnScope ["one", "spans", "low", "first", "last", "span"] ["one"] (defScope s_rest) := ⟨rfl, rfl, rfl, by decide +kernel, rfl, by decide +kernel, by decide +kernel⟩
def B_rest : FS := (sSeq S_rest_0
    (sSeq S_rest_1
    (sSeq S_rest_2
    (sSeq S_rest_3
    S_rest_4))))
def F_rest : FnS := callF 6 B_rest
abbrev S_has_0 : FS := (sRet (eCB gAny (lCons (eFz (nLc [2, 3] (lSeq (eV 0)) (gTup 2 (gCons (gN 2) (gCons (gN 3) gNil))) bYes (eCh dLe dLe (eV 2) (eV 1) (eV 3)))) lNil)))
abbrev s_has : Stmt := top 23
theorem sc_has : FnScope ["one", "edition", "low", "high"] ["one", "edition"] (defScope s_has) := ⟨rfl, rfl, rfl, by decide +kernel, rfl, by decide +kernel, by decide +kernel⟩
def B_has : FS := S_has_0
def F_has : FnS := callF 4 B_has
abbrev S_is_within_0 : FS := (sRet (eOp dEq (eCall F_both (aCons (eV 0) (aCons (eV 1) aNil))) (eV 0)))
abbrev s_is_within : Stmt := top 24
theorem sc_is_within : FnScope ["one", "other"] ["one", "other"] (defScope s_is_within) := ⟨rfl, rfl, rfl, by decide +kernel, rfl, by decide +kernel, by decide +kernel⟩
def B_is_within : FS := S_is_within_0
def F_is_within : FnS := callF 2 B_is_within
abbrev S_count_0 : FS := (sRet (eCB gSum (lCons (eFz (nLc [1, 2] (lSeq (eCall F_spans_of (aCons (eV 0) aNil))) (gTup 2 (gCons (gN 1) (gCons (gN 2) gNil))) bYes (eOp dAdd (eOp dSub (eV 2) (eV 1)) (eC (.int 1))))) lNil)))
abbrev s_count : Stmt := top 25
theorem sc_count : FnScope ["one", "low", "high"] ["one"] (defScope s_count) := ⟨rfl, rfl, rfl, by decide +kernel, rfl, by decide +kernel, by decide +kernel⟩
def B_count : FS := S_count_0
def F_count : FnS := callF 3 B_count
abbrev S_show_stretch_0_a0 : FS := (sRet (eJ ((eC (.str (Str.ofString "="))) :: ((jD (eCall F_show_edition (aCons (eV 0) aNil))) :: []))))
abbrev S_show_stretch_0 : FS := (sIf (bOf (eOp dEq (eV 0) (eV 1))) S_show_stretch_0_a0 sNil)
abbrev S_show_stretch_1_a0 : FS := (sRet (eJ ((eC (.str (Str.ofString "<="))) :: ((jD (eCall F_show_edition (aCons (eV 1) aNil))) :: []))))
abbrev S_show_stretch_1 : FS := (sIf (bOf (eOp dEq (eV 0) (eC k_FIRST))) S_show_stretch_1_a0 sNil)
abbrev S_show_stretch_2_a0 : FS := (sRet (eJ ((eC (.str (Str.ofString ">="))) :: ((jD (eCall F_show_edition (aCons (eV 0) aNil))) :: []))))
abbrev S_show_stretch_2 : FS := (sIf (bOf (eOp dEq (eV 1) (eC k_LAST))) S_show_stretch_2_a0 sNil)
abbrev S_show_stretch_3 : FS := (sRet (eJ ((eC (.str (Str.ofString ">="))) :: ((jD (eCall F_show_edition (aCons (eV 0) aNil))) :: ((eC (.str (Str.ofString " <="))) :: ((jD (eCall F_show_edition (aCons (eV 1) aNil))) :: []))))))
abbrev s_show_stretch : Stmt := top 26
theorem sc_show_stretch : FnScope ["low", "high"] ["low", "high"] (defScope s_show_stretch) := ⟨rfl, rfl, rfl, by decide +kernel, rfl, by decide +kernel, by decide +kernel⟩
def B_show_stretch : FS := (sSeq S_show_stretch_0
    (sSeq S_show_stretch_1
    (sSeq S_show_stretch_2
    S_show_stretch_3)))
def F_show_stretch : FnS := callF 2 B_show_stretch
abbrev S_show_range_0_a0 : FS := (sRet (eC (.str (Str.ofString "none"))))
abbrev S_show_range_0 : FS := (sIf (bOf (eOp dEq (eV 0) (eC k_NONE))) S_show_range_0_a0 sNil)
abbrev S_show_range_1_a0 : FS := (sRet (eC (.str (Str.ofString "any"))))
abbrev S_show_range_1 : FS := (sIf (bOf (eOp dEq (eV 0) (eC k_ANY))) S_show_range_1_a0 sNil)
abbrev S_show_range_2 : FS := (sRet (eM1 gJoin (eC (.str (Str.ofString " | "))) (eFz (nLc [1, 2] (lSeq (eV 0)) (gTup 2 (gCons (gN 1) (gCons (gN 2) gNil))) bYes (eCall F_show_stretch (aCons (eV 1) (aCons (eV 2) aNil)))))))
abbrev s_show_range : Stmt := top 27
theorem sc_show_range : FnScope ["one", "low", "high"] ["one"] (defScope s_show_range) := ⟨rfl, rfl, rfl, by decide +kernel, rfl, by decide +kernel, by decide +kernel⟩
def B_show_range : FS := (sSeq S_show_range_0
    (sSeq S_show_range_1
    S_show_range_2))
def F_show_range : FnS := callF 3 B_show_range
abbrev S_top_of_0 : FS := (sAsg (eV 1) (gTup 3 (gCons (gN 2) (gCons (gN 3) (gCons (gN 4) gNil)))))
abbrev S_top_of_1_a0 : FS := (sRet (eTup (lCons (eV 2) (lCons (eV 3) (lCons (eC (.int 99)) lNil)))))
abbrev S_top_of_1 : FS := (sIf (bOf (eOp dEq (eV 0) (eC (.str (Str.ofString "~"))))) S_top_of_1_a0 sNil)
abbrev S_top_of_2_a0 : FS := (sRet (eTup (lCons (eV 2) (lCons (eC (.int 99)) (lCons (eC (.int 99)) lNil)))))
abbrev S_top_of_2 : FS := (sIf (bOf (eOp dGt (eV 2) (eC (.int 0)))) S_top_of_2_a0 sNil)
abbrev S_top_of_3 : FS := (sRet (eIf (bOf (eOp dGt (eV 3) (eC (.int 0)))) (eTup (lCons (eC (.int 0)) (lCons (eV 3) (lCons (eC (.int 99)) lNil)))) (eV 1)))
abbrev s_top_of : Stmt := top 28
theorem sc_top_of : FnScope ["mark", "edition", "a", "b", "c"] ["mark", "edition"] (defScope s_top_of) := ⟨rfl, rfl, rfl, by decide +kernel, rfl, by decide +kernel, by decide +kernel⟩
def B_top_of : FS := (sSeq S_top_of_0
    (sSeq S_top_of_1
    (sSeq S_top_of_2
    S_top_of_3)))
def F_top_of : FnS := callF 5 B_top_of
abbrev S_bound_range_0 : FS := (sAsg (eFz (nLc [2] (lSeq (eTup (lCons (eC (.str (Str.ofString "<="))) (lCons (eC (.str (Str.ofString ">="))) (lCons (eC (.str (Str.ofString "<"))) (lCons (eC (.str (Str.ofString ">"))) (lCons (eC (.str (Str.ofString "="))) (lCons (eC (.str (Str.ofString "~"))) (lCons (eC (.str (Str.ofString "^"))) lNil))))))))) (gN 2) (bOf (eM1 gStarts (eV 0) (eV 2))) (eV 2))) (gN 1))
abbrev S_bound_range_1_a0 : FS := (sRet (eC .none))
abbrev S_bound_range_1 : FS := (sIf (bOf (eOp dEq (eV 1) (eFz (nLst lNil)))) S_bound_range_1_a0 sNil)
abbrev S_bound_range_2 : FS := (sAsg (eOp dIx (eV 1) (eC (.int 0))) (gN 2))
abbrev S_bound_range_3 : FS := (sAsg (eCall F_read_edition (aCons (eSl (eV 0) (oSome (eCB gLen (lCons (eV 2) lNil))) oNone) aNil)) (gN 3))
abbrev S_bound_range_4_a0 : FS := (sRet (eC .none))
abbrev S_bound_range_4 : FS := (sIf (bOf (eOp dIsN (eV 3) (eC .none))) S_bound_range_4_a0 sNil)
abbrev S_bound_range_5 : FS := (sPar [4, 5] (lCons (eCall F_place_of (aCons (eV 3) aNil)) (lCons (eCall F_place_of (aCons (eC k_LAST) aNil)) lNil)))
abbrev S_bound_range_6_a0 : FS := (sRet (eTup (lCons (eTup (lCons (eV 3) (lCons (eCall F_top_of (aCons (eV 2) (aCons (eV 3) aNil))) lNil))) lNil)))
abbrev S_bound_range_6 : FS := (sIf (bOf (eOp dIn (eV 2) (eTup (lCons (eC (.str (Str.ofString "~"))) (lCons (eC (.str (Str.ofString "^"))) lNil))))) S_bound_range_6_a0 sNil)
abbrev S_bound_range_7 : FS := (sAsg (eFz (nDsp (((eC (.str (Str.ofString "<="))), (eTup (lCons (eC (.int 0)) (lCons (eV 4) lNil)))) :: (((eC (.str (Str.ofString ">="))), (eTup (lCons (eV 4) (lCons (eV 5) lNil)))) :: (((eC (.str (Str.ofString "<"))), (eTup (lCons (eC (.int 0)) (lCons (eOp dSub (eV 4) (eC (.int 1))) lNil)))) :: (((eC (.str (Str.ofString ">"))), (eTup (lCons (eOp dAdd (eV 4) (eC (.int 1))) (lCons (eV 5) lNil)))) :: (((eC (.str (Str.ofString "="))), (eTup (lCons (eV 4) (lCons (eV 4) lNil)))) :: []))))))) (gN 6))
abbrev S_bound_range_8 : FS := (sRet (eIf (bOf (eOp dLe (eOp dIx (eOp dIx (eV 6) (eV 2)) (eC (.int 0))) (eOp dIx (eOp dIx (eV 6) (eV 2)) (eC (.int 1))))) (eCall F_joined (aCons (eFz (nLst (lCons (eOp dIx (eV 6) (eV 2)) lNil))) aNil)) (eC k_NONE)))
abbrev s_bound_range : Stmt := top 29
theorem sc_bound_range : FnScope ["word", "marks", "mark", "edition", "place", "last", "spans"] ["word"] (defScope s_bound_range) := ⟨rfl, rfl, rfl, by decide +kernel, rfl, by decide +kernel, by decide +kernel⟩
def B_bound_range : FS := (sSeq S_bound_range_0
    (sSeq S_bound_range_1
    (sSeq S_bound_range_2
    (sSeq S_bound_range_3
    (sSeq S_bound_range_4
    (sSeq S_bound_range_5
    (sSeq S_bound_range_6
    (sSeq S_bound_range_7
    S_bound_range_8))))))))
def F_bound_range : FnS := callF 7 B_bound_range
abbrev S_part_range_0_a0 : FS := (sRet (eIf (bOf (eOp dEq (eV 0) (eC (.str (Str.ofString "none"))))) (eC k_NONE) (eC k_ANY)))
abbrev S_part_range_0 : FS := (sIf (bOf (eOp dIn (eV 0) (eTup (lCons (eC (.str (Str.ofString "none"))) (lCons (eC (.str (Str.ofString "any"))) lNil))))) S_part_range_0_a0 sNil)
abbrev S_part_range_1 : FS := (sAsg (eFz (nLc [4] (lSeq (eFz (nM1 gSplit (eV 0) (eC (.str (Str.ofString " ")))))) (gN 4) bYes (eCall F_bound_range (aCons (eV 4) aNil)))) (gN 1))
abbrev S_part_range_2_a0 : FS := (sRet (eC .none))
abbrev S_part_range_2 : FS := (sIf (bOr (bOf (eOp dIn (eC .none) (eV 1))) (bOf (eOp dGt (eCB gLen (lCons (eV 1) lNil)) (eC k_MOST_BOUNDS)))) S_part_range_2_a0 sNil)
abbrev S_part_range_3 : FS := (sAsg (eC k_ANY) (gN 2))
abbrev S_part_range_4_0 : FS := (sAsg (eCall F_both (aCons (eV 2) (aCons (eV 3) aNil))) (gN 2))
abbrev S_part_range_4 : FS := (sFor (lSeq (eV 1)) (gN 3) S_part_range_4_0)
abbrev S_part_range_5 : FS := (sRet (eV 2))
abbrev s_part_range : Stmt := top 30
theorem sc_part_range : FnScope ["part", "bounds", "found", "bound", "word"] ["part"] (defScope s_part_range) := ⟨rfl, rfl, rfl, by decide +kernel, rfl, by decide +kernel, by decide +kernel⟩
def B_part_range : FS := (sSeq S_part_range_0
    (sSeq S_part_range_1
    (sSeq S_part_range_2
    (sSeq S_part_range_3
    (sSeq S_part_range_4
    S_part_range_5)))))
def F_part_range : FnS := callF 5 B_part_range
abbrev S_read_range_0 : FS := (sIf (bNot (bOf (eUn (dIs "str") (eV 0)))) sNo sNil)
abbrev S_read_range_1 : FS := (sAsg (eFz (nLc [3] (lSeq (eFz (nM1 gSplit (eV 0) (eC (.str (Str.ofString " | ")))))) (gN 3) bYes (eCall F_part_range (aCons (eV 3) aNil)))) (gN 1))
abbrev S_read_range_2 : FS := (sIf (bOf (eOp dIn (eC .none) (eV 1))) sNo sNil)
abbrev S_read_range_3 : FS := (sAsg (eC k_NONE) (gN 2))
abbrev S_read_range_4_0 : FS := (sAsg (eCall F_either (aCons (eV 2) (aCons (eV 3) aNil))) (gN 2))
abbrev S_read_range_4 : FS := (sFor (lSeq (eV 1)) (gN 3) S_read_range_4_0)
abbrev S_read_range_5 : FS := (sRet (eV 2))
abbrev s_read_range : Stmt := top 31
theorem sc_read_range : FnScope ["thing", "parts", "found", "part"] ["thing"] (defScope s_read_range) := ⟨rfl, rfl, rfl, by decide +kernel, rfl, by decide +kernel, by decide +kernel⟩
def B_read_range : FS := (sSeq S_read_range_0
    (sSeq S_read_range_1
    (sSeq S_read_range_2
    (sSeq S_read_range_3
    (sSeq S_read_range_4
    S_read_range_5)))))
def F_read_range : FnS := callF 4 B_read_range
abbrev S__law_deck_0_a0 : FS := (sRetN (nLst (lCons (eOp dSub (eV 0) (eOp dPow (eC (.int 10)) (eC (.int 18)))) (lCons (eOp dMod (eV 0) (eC (.int 2147483579))) (lCons (eV 1) lNil)))))
abbrev S__law_deck_0 : FS := (sIf (bOf (eOp dGe (eV 0) (eOp dPow (eC (.int 10)) (eC (.int 18))))) S__law_deck_0_a0 sNil)
abbrev S__law_deck_1 : FS := (sRetN (nLst (lCons (eC (.int 0)) (lCons (eOp dMod (eV 0) (eC (.int 2147483579))) (lCons (eV 1) lNil)))))
abbrev s__law_deck : Stmt := top 33
theorem sc__law_deck : FnScope ["cell", "turn"] ["cell", "turn"] (defScope s__law_deck) := ⟨rfl, rfl, rfl, by decide +kernel, rfl, by decide +kernel, by decide +kernel⟩
def B__law_deck : FS := (sSeq S__law_deck_0
    S__law_deck_1)
def F__law_deck : FnS := callF 2 B__law_deck
abbrev S__law_pick_0_a0 : FS := (sAsg (eOp dMod (eOix 0 (eC (.int 0))) (eV 1)) (gN 2))
abbrev S__law_pick_0_a1 : FS := (sSetL 0 (eC (.int 0)) (eOp dDiv (eOix 0 (eC (.int 0))) (eV 1)))
abbrev S__law_pick_0_a2 : FS := (sRet (eV 2))
abbrev S__law_pick_0 : FS := (sIf (bOf (eOp dGt (eOix 0 (eC (.int 0))) (eC (.int 1)))) (sSeq S__law_pick_0_a0
    (sSeq S__law_pick_0_a1
    S__law_pick_0_a2)) sNil)
abbrev S__law_pick_1 : FS := (sSetL 0 (eC (.int 2)) (eOp dAdd (eOix 0 (eC (.int 2))) (eC (.int 1))))
abbrev S__law_pick_2 : FS := (sAsg (eOp dMod (eOp dPow (eOp dAdd (eOix 0 (eC (.int 1))) (eOp dMul (eC (.int 15485867)) (eOix 0 (eC (.int 2))))) (eC (.int 5))) (eC (.int 2147483647))) (gN 3))
abbrev S__law_pick_3 : FS := (sAsg (eOp dDiv (eOp dMod (eOp dPow (eOp dAdd (eV 3) (eOp dMul (eC (.int 7919)) (eOix 0 (eC (.int 2))))) (eC (.int 3))) (eC (.int 2147483629))) (eC (.int 32))) (gN 2))
abbrev S__law_pick_4_a0 : FS := (sRet (eOp dMod (eOp dAdd (eOp dMul (eV 2) (eC (.int 2147483563))) (eV 3)) (eV 1)))
abbrev S__law_pick_4 : FS := (sIf (bOf (eOp dGt (eV 1) (eC (.int 1000000)))) S__law_pick_4_a0 sNil)
abbrev S__law_pick_5 : FS := (sRet (eOp dMod (eV 2) (eV 1)))
abbrev s__law_pick : Stmt := top 34
theorem sc__law_pick : FnScope ["deck", "many", "found", "number"] ["deck", "many"] (defScope s__law_pick) := ⟨rfl, rfl, rfl, by decide +kernel, rfl, by decide +kernel, by decide +kernel⟩
def B__law_pick : FS := (sSeq S__law_pick_0
    (sSeq S__law_pick_1
    (sSeq S__law_pick_2
    (sSeq S__law_pick_3
    (sSeq S__law_pick_4
    S__law_pick_5)))))
def F__law_pick : FnS := callF 4 B__law_pick
abbrev S__law_edition_0 : FS := (sAsg (eCall F__law_pick (aRef 0 (aCons (eC (.int 5)) aNil))) (gN 1))
abbrev S__law_edition_1_a0 : FS := (sRet (eTup (lCons (eCall F__law_pick (aRef 0 (aCons (eC (.int 3)) aNil))) (lCons (eCall F__law_pick (aRef 0 (aCons (eC (.int 2)) aNil))) (lCons (eC (.int 0)) lNil)))))
abbrev S__law_edition_1 : FS := (sIf (bOf (eOp dLt (eV 1) (eC (.int 4)))) S__law_edition_1_a0 sNil)
abbrev S__law_edition_2 : FS := (sAsg (eFz (nLst (lCons (eC (.int 0)) (lCons (eC (.int 1)) (lCons (eC (.int 99)) (lCons (eCall F__law_pick (aRef 0 (aCons (eC (.int 100)) aNil))) lNil)))))) (gN 2))
abbrev S__law_edition_3 : FS := (sRet (eTup (lCons (eOp dIx (eV 2) (eCall F__law_pick (aRef 0 (aCons (eC (.int 4)) aNil)))) (lCons (eOp dIx (eV 2) (eCall F__law_pick (aRef 0 (aCons (eC (.int 4)) aNil)))) (lCons (eOp dIx (eV 2) (eCall F__law_pick (aRef 0 (aCons (eC (.int 4)) aNil)))) lNil)))))
abbrev s__law_edition : Stmt := top 35
theorem sc__law_edition : FnScope ["deck", "way", "some"] ["deck"] (defScope s__law_edition) := ⟨rfl, rfl, rfl, by decide +kernel, rfl, by decide +kernel, by decide +kernel⟩
def B__law_edition : FS := (sSeq S__law_edition_0
    (sSeq S__law_edition_1
    (sSeq S__law_edition_2
    S__law_edition_3)))
def F__law_edition : FnS := callF 3 B__law_edition
abbrev S__law_place_0 : FS := (sRet (eOp dAdd (eOp dAdd (eOp dMul (eOp dIx (eV 0) (eC (.int 0))) (eC (.int 10000))) (eOp dMul (eOp dIx (eV 0) (eC (.int 1))) (eC (.int 100)))) (eOp dIx (eV 0) (eC (.int 2)))))
abbrev s__law_place : Stmt := top 36
theorem sc__law_place : FnScope ["edition"] ["edition"] (defScope s__law_place) := ⟨rfl, rfl, rfl, by decide +kernel, rfl, by decide +kernel, by decide +kernel⟩
def B__law_place : FS := S__law_place_0
def F__law_place : FnS := callF 1 B__law_place
abbrev S__law_at_0 : FS := (sRet (eTup (lCons (eOp dDiv (eV 0) (eC (.int 10000))) (lCons (eOp dMod (eOp dDiv (eV 0) (eC (.int 100))) (eC (.int 100))) (lCons (eOp dMod (eV 0) (eC (.int 100))) lNil)))))
abbrev s__law_at : Stmt := top 37
theorem sc__law_at : FnScope ["place"] ["place"] (defScope s__law_at) := ⟨rfl, rfl, rfl, by decide +kernel, rfl, by decide +kernel, by decide +kernel⟩
def B__law_at : FS := S__law_at_0
def F__law_at : FnS := callF 1 B__law_at
abbrev S__law_joined_0 : FS := (sOwn (nLst lNil) 1)
abbrev S__law_joined_1_0_a0 : FS := (sSetL 1 (eUn dNeg (eC (.int 1))) (eTup (lCons (eOp dIx (eOix 1 (eUn dNeg (eC (.int 1)))) (eC (.int 0))) (lCons (eCB gMax (lCons (eV 3) (lCons (eOp dIx (eOix 1 (eUn dNeg (eC (.int 1)))) (eC (.int 1))) lNil))) lNil))))
abbrev S__law_joined_1_0_b0 : FS := (sApp 1 (eTup (lCons (eV 2) (lCons (eV 3) lNil))))
abbrev S__law_joined_1_0 : FS := (sIf (bAnd (bOf (ePkL dNe 1 (eFz (nLst lNil)))) (bOf (eOp dLe (eV 2) (eOp dAdd (eOp dIx (eOix 1 (eUn dNeg (eC (.int 1)))) (eC (.int 1))) (eC (.int 1)))))) S__law_joined_1_0_a0 S__law_joined_1_0_b0)
abbrev S__law_joined_1 : FS := (sFor (lSeq (eFz (nCB gSorted (lCons (eV 0) lNil)))) (gTup 2 (gCons (gN 2) (gCons (gN 3) gNil))) S__law_joined_1_0)
abbrev S__law_joined_2 : FS := (sRet (eCB gTuple (lCons (eFz (nLc [2, 3] (lSeq (eVF 1)) (gTup 2 (gCons (gN 2) (gCons (gN 3) gNil))) bYes (eTup (lCons (eCall F__law_at (aCons (eV 2) aNil)) (lCons (eCall F__law_at (aCons (eV 3) aNil)) lNil))))) lNil)))
abbrev s__law_joined : Stmt := top 38
theorem sc__law_joined : FnScope ["spans", "found", "low", "high"] ["spans"] (defScope s__law_joined) := ⟨rfl, rfl, rfl, by decide +kernel, rfl, by decide +kernel, by decide +kernel⟩
def B__law_joined : FS := (sSeq S__law_joined_0
    (sSeq S__law_joined_1
    S__law_joined_2))
def F__law_joined : FnS := callF 4 B__law_joined
abbrev S__law_span_0 : FS := (sAsg (eCall F__law_pick (aRef 0 (aCons (eC (.int 9)) aNil))) (gN 1))
abbrev S__law_span_1 : FS := (sAsg (eFz (nCB gSorted (lCons (eFz (nLst (lCons (eCall F__law_place (aCons (eCall F__law_edition (aRef 0 aNil)) aNil)) (lCons (eCall F__law_place (aCons (eCall F__law_edition (aRef 0 aNil)) aNil)) lNil)))) lNil))) (gLst 2 (gCons (gN 2) (gCons (gN 3) gNil))))
abbrev S__law_span_2_a0 : FS := (sRet (eTup (lCons (eTup (lCons (eTup (lCons (eC (.int 0)) (lCons (eC (.int 0)) (lCons (eC (.int 0)) lNil)))) (lCons (eTup (lCons (eC (.int 99)) (lCons (eC (.int 99)) (lCons (eC (.int 99)) lNil)))) lNil))) lNil)))
abbrev S__law_span_2 : FS := (sIf (bOf (eOp dLt (eV 1) (eC (.int 3)))) S__law_span_2_a0 sNil)
abbrev S__law_span_3_a0 : FS := (sRet (eTup (lCons (eTup (lCons (eCall F__law_at (aCons (eV 2) aNil)) (lCons (eTup (lCons (eC (.int 99)) (lCons (eC (.int 99)) (lCons (eC (.int 99)) lNil)))) lNil))) lNil)))
abbrev S__law_span_3 : FS := (sIf (bOf (eOp dEq (eV 1) (eC (.int 3)))) S__law_span_3_a0 sNil)
abbrev S__law_span_4_a0 : FS := (sRet (eTup (lCons (eTup (lCons (eTup (lCons (eC (.int 0)) (lCons (eC (.int 0)) (lCons (eC (.int 0)) lNil)))) (lCons (eCall F__law_at (aCons (eV 3) aNil)) lNil))) lNil)))
abbrev S__law_span_4 : FS := (sIf (bOf (eOp dEq (eV 1) (eC (.int 4)))) S__law_span_4_a0 sNil)
abbrev S__law_span_5_a0 : FS := (sRet (eTup (lCons (eTup (lCons (eCall F__law_at (aCons (eV 2) aNil)) (lCons (eCall F__law_at (aCons (eV 3) aNil)) lNil))) lNil)))
abbrev S__law_span_5 : FS := (sIf (bOf (eOp dLt (eV 1) (eC (.int 7)))) S__law_span_5_a0 sNil)
abbrev S__law_span_6_a0 : FS := (sAsg (eCall F__law_place (aCons (eCall F__law_edition (aRef 0 aNil)) aNil)) (gN 4))
abbrev S__law_span_6_a1 : FS := (sRet (eCall F__law_joined (aCons (eFz (nLst (lCons (eTup (lCons (eV 2) (lCons (eV 2) lNil))) (lCons (eTup (lCons (eV 3) (lCons (eV 3) lNil))) (lCons (eTup (lCons (eV 4) (lCons (eCB gMin (lCons (eC (.int 999999)) (lCons (eOp dAdd (eV 4) (eCall F__law_pick (aRef 0 (aCons (eC (.int 300)) aNil)))) lNil))) lNil))) lNil))))) aNil)))
abbrev S__law_span_6 : FS := (sIf (bOf (eOp dEq (eV 1) (eC (.int 7)))) (sSeq S__law_span_6_a0
    S__law_span_6_a1) sNil)
abbrev S__law_span_7 : FS := (sRet (eCall F__law_joined (aCons (eOp dMul (eFz (nLst (lCons (eTup (lCons (eV 2) (lCons (eV 3) lNil))) lNil))) (eCall F__law_pick (aRef 0 (aCons (eC (.int 2)) aNil)))) aNil)))
abbrev s__law_span : Stmt := top 39
theorem sc__law_span : FnScope ["deck", "way", "one", "other", "more"] ["deck"] (defScope s__law_span) := ⟨rfl, rfl, rfl, by decide +kernel, rfl, by decide +kernel, by decide +kernel⟩
def B__law_span : FS := (sSeq S__law_span_0
    (sSeq S__law_span_1
    (sSeq S__law_span_2
    (sSeq S__law_span_3
    (sSeq S__law_span_4
    (sSeq S__law_span_5
    (sSeq S__law_span_6
    S__law_span_7)))))))
def F__law_span : FnS := callF 5 B__law_span
abbrev S__law_hat_right_0 : FS := (sAsg (eOp dIx (eOp dIx (eV 1) (eC (.int 0))) (eC (.int 1))) (gN 2))
abbrev S__law_hat_right_1_a0 : FS := (sRet (eC (.bool false)))
abbrev S__law_hat_right_1 : FS := (sIf (bOr (bOf (eOp dNe (eOp dIx (eOp dIx (eV 1) (eC (.int 0))) (eC (.int 0))) (eV 0))) (bOf (eOp dNe (eCB gLen (lCons (eV 1) lNil)) (eC (.int 1))))) S__law_hat_right_1_a0 sNil)
abbrev S__law_hat_right_2 : FS := (sAsg (eFz (nLc [5] (lRng1 (lCons (eC (.int 3)) lNil)) (gN 5) (bOf (eOp dGt (eOp dIx (eV 0) (eV 5)) (eC (.int 0)))) (eV 5))) (gN 3))
abbrev S__law_hat_right_3_a0 : FS := (sRet (eOp dEq (eV 2) (eV 0)))
abbrev S__law_hat_right_3 : FS := (sIf (bOf (eOp dEq (eV 3) (eFz (nLst lNil)))) S__law_hat_right_3_a0 sNil)
abbrev S__law_hat_right_4 : FS := (sAsg (eCall F_follows (aCons (eV 2) aNil)) (gN 4))
abbrev S__law_hat_right_5_a0 : FS := (sRet (eC (.bool false)))
abbrev S__law_hat_right_5 : FS := (sIf (bOf (eOp dNe (eSl (eV 2) oNone (oSome (eOp dAdd (eOp dIx (eV 3) (eC (.int 0))) (eC (.int 1))))) (eSl (eV 0) oNone (oSome (eOp dAdd (eOp dIx (eV 3) (eC (.int 0))) (eC (.int 1))))))) S__law_hat_right_5_a0 sNil)
abbrev S__law_hat_right_6 : FS := (sRet (eOr (eOp dIsN (eV 4) (eC .none)) (eOp dNe (eSl (eV 4) oNone (oSome (eOp dAdd (eOp dIx (eV 3) (eC (.int 0))) (eC (.int 1))))) (eSl (eV 0) oNone (oSome (eOp dAdd (eOp dIx (eV 3) (eC (.int 0))) (eC (.int 1))))))))
abbrev s__law_hat_right : Stmt := top 40
theorem sc__law_hat_right : FnScope ["edition", "hat", "last", "first", "after", "k"] ["edition", "hat"] (defScope s__law_hat_right) := ⟨rfl, rfl, rfl, by decide +kernel, rfl, by decide +kernel, by decide +kernel⟩
def B__law_hat_right : FS := (sSeq S__law_hat_right_0
    (sSeq S__law_hat_right_1
    (sSeq S__law_hat_right_2
    (sSeq S__law_hat_right_3
    (sSeq S__law_hat_right_4
    (sSeq S__law_hat_right_5
    S__law_hat_right_6))))))
def F__law_hat_right : FnS := callF 6 B__law_hat_right
abbrev S__law_walked_0 : FS := (sAsg (eC (.int 0)) (gN 1))
abbrev S__law_walked_1_0 : FS := (sAsg (eV 2) (gN 4))
abbrev S__law_walked_1_1_0 : FS := (sAsg (eOp dAdd (eV 1) (eC (.int 1))) (gN 1))
abbrev S__law_walked_1_1_1 : FS := (sAsg (eCall F_follows (aCons (eV 4) aNil)) (gN 4))
abbrev L__law_walked_1_1 : FS := (sSeq S__law_walked_1_1_0
    S__law_walked_1_1_1)
abbrev S__law_walked_1_1 : FS := (sWh (bOf (eOp dNe (eV 4) (eV 3))) L__law_walked_1_1 fuelW)
abbrev S__law_walked_1_2 : FS := (sAsg (eOp dAdd (eV 1) (eC (.int 1))) (gN 1))
abbrev L__law_walked_1 : FS := (sSeq S__law_walked_1_0
    (sSeq S__law_walked_1_1
    S__law_walked_1_2))
abbrev S__law_walked_1 : FS := (sFor (lSeq (eV 0)) (gTup 2 (gCons (gN 2) (gCons (gN 3) gNil))) L__law_walked_1)
abbrev S__law_walked_2 : FS := (sRet (eV 1))
abbrev s__law_walked : Stmt := top 41
theorem sc__law_walked : FnScope ["span", "found", "low", "high", "here"] ["span"] (defScope s__law_walked) := ⟨rfl, rfl, rfl, by decide +kernel, rfl, by decide +kernel, by decide +kernel⟩
def B__law_walked : FS := (sSeq S__law_walked_0
    (sSeq S__law_walked_1
    S__law_walked_2))
def F__law_walked : FnS := callF 5 B__law_walked
abbrev S_law_0_0 : FS := (sOwn (nCall F__law_deck (aCons (eV 1) (aCons (eC (.int 0)) aNil))) 2)
abbrev S_law_0_1 : FS := (sPar [3, 4] (lCons (eCall F__law_span (aRef 2 aNil)) (lCons (eCall F__law_span (aRef 2 aNil)) lNil)))
abbrev S_law_0_2_a0 : FS := (sRet (eC (.bool false)))
abbrev S_law_0_2 : FS := (sIf (bOf (eOp dNe (eCall F_read_range (aCons (eOp dAdd (eOp dAdd (eCall F_show_range (aCons (eV 3) aNil)) (eC (.str (Str.ofString " | ")))) (eCall F_show_range (aCons (eV 4) aNil))) aNil)) (eCall F_either (aCons (eV 3) (aCons (eV 4) aNil))))) S_law_0_2_a0 sNil)
abbrev S_law_0_3 : FS := (sAsg (eCall F__law_edition (aRef 2 aNil)) (gN 5))
abbrev S_law_0_4 : FS := (sAsg (eCall F_show_edition (aCons (eV 5) aNil)) (gN 6))
abbrev S_law_0_5 : FS := (sOwn nDct 7)
abbrev S_law_0_6_0 : FS := (sSetD 7 (eV 8) (eCall F_read_range (aCons (eOp dAdd (eV 8) (eV 6)) aNil)))
abbrev S_law_0_6_1 : FS := (sAsg (eOp dAdd (eOp dIx (eFz (nLst (lCons (eC (.str (Str.ofString "<="))) (lCons (eC (.str (Str.ofString ">="))) lNil)))) (eCall F__law_pick (aRef 2 (aCons (eC (.int 2)) aNil)))) (eCall F_show_edition (aCons (eCall F__law_edition (aRef 2 aNil)) aNil))) (gN 9))
abbrev S_law_0_6_2_a0 : FS := (sRet (eC (.bool false)))
abbrev S_law_0_6_2 : FS := (sIf (bOf (eOp dNe (eCall F_read_range (aCons (eOp dAdd (eOp dAdd (eOp dAdd (eV 8) (eV 6)) (eC (.str (Str.ofString " ")))) (eV 9)) aNil)) (eCall F_both (aCons (eOixD 7 (eV 8)) (aCons (eCall F_read_range (aCons (eV 9) aNil)) aNil))))) S_law_0_6_2_a0 sNil)
abbrev L_law_0_6 : FS := (sSeq S_law_0_6_0
    (sSeq S_law_0_6_1
    S_law_0_6_2))
abbrev S_law_0_6 : FS := (sFor (lSeq (eFz (nLst (lCons (eC (.str (Str.ofString "="))) (lCons (eC (.str (Str.ofString ">="))) (lCons (eC (.str (Str.ofString ">"))) (lCons (eC (.str (Str.ofString "<="))) (lCons (eC (.str (Str.ofString "<"))) (lCons (eC (.str (Str.ofString "~"))) (lCons (eC (.str (Str.ofString "^"))) lNil)))))))))) (gN 8) L_law_0_6)
abbrev S_law_0_7_a0 : FS := (sRet (eC (.bool false)))
abbrev S_law_0_7 : FS := (sIf (bOr (bOf (eOp dNe (eCall F_rest (aCons (eOp dIx (eVF 7) (eC (.str (Str.ofString ">=")))) aNil)) (eOp dIx (eVF 7) (eC (.str (Str.ofString "<")))))) (bOf (eOp dNe (eCall F_rest (aCons (eOp dIx (eVF 7) (eC (.str (Str.ofString ">")))) aNil)) (eOp dIx (eVF 7) (eC (.str (Str.ofString "<="))))))) S_law_0_7_a0 sNil)
abbrev S_law_0_8_a0 : FS := (sRet (eC (.bool false)))
abbrev S_law_0_8 : FS := (sIf (bOr (bOf (eOp dNe (eCall F_both (aCons (eOp dIx (eVF 7) (eC (.str (Str.ofString ">=")))) (aCons (eOp dIx (eVF 7) (eC (.str (Str.ofString "<=")))) aNil))) (eOp dIx (eVF 7) (eC (.str (Str.ofString "=")))))) (bOf (eOp dNe (eOp dIx (eVF 7) (eC (.str (Str.ofString "=")))) (eTup (lCons (eTup (lCons (eV 5) (lCons (eV 5) lNil))) lNil))))) S_law_0_8_a0 sNil)
abbrev S_law_0_9_a0 : FS := (sRet (eC (.bool false)))
abbrev S_law_0_9 : FS := (sIf (bOr (bNot (bOf (eCall F_has (aCons (eOp dIx (eVF 7) (eC (.str (Str.ofString "~")))) (aCons (eV 5) aNil))))) (bOf (eOp dNe (eOp dIx (eOp dIx (eVF 7) (eC (.str (Str.ofString "~")))) (eC (.int 0))) (eTup (lCons (eV 5) (lCons (eOp dAdd (eSl (eV 5) oNone (oSome (eC (.int 2)))) (eTup (lCons (eC (.int 99)) lNil))) lNil)))))) S_law_0_9_a0 sNil)
abbrev S_law_0_10_a0 : FS := (sRet (eC (.bool false)))
abbrev S_law_0_10 : FS := (sIf (bOr (bNot (bOf (eCall F__law_hat_right (aCons (eV 5) (aCons (eOp dIx (eVF 7) (eC (.str (Str.ofString "^")))) aNil))))) (bAnd (bOf (eOp dGt (eOp dIx (eV 5) (eC (.int 0))) (eC (.int 0)))) (bNot (bOf (eCall F_is_within (aCons (eOp dIx (eVF 7) (eC (.str (Str.ofString "~")))) (aCons (eOp dIx (eVF 7) (eC (.str (Str.ofString "^")))) aNil))))))) S_law_0_10_a0 sNil)
abbrev S_law_0_11 : FS := (sAsg (eCall F_both (aCons (eCall F_read_range (aCons (eOp dAdd (eC (.str (Str.ofString "~"))) (eV 6)) aNil)) (aCons (eCall F_either (aCons (eV 3) (aCons (eC k_ANY) aNil))) aNil))) (gN 10))
abbrev S_law_0_12_a0 : FS := (sRet (eC (.bool false)))
abbrev S_law_0_12 : FS := (sIf (bOr (bOf (eOp dNe (eCall F_count (aCons (eV 10) aNil)) (eCall F__law_walked (aCons (eV 10) aNil)))) (bOf (eOp dNe (eCall F_count (aCons (eV 10) aNil)) (eOp dSub (eC (.int 100)) (eOp dIx (eV 5) (eC (.int 2))))))) S_law_0_12_a0 sNil)
abbrev L_law_0 : FS := (sSeq S_law_0_0
    (sSeq S_law_0_1
    (sSeq S_law_0_2
    (sSeq S_law_0_3
    (sSeq S_law_0_4
    (sSeq S_law_0_5
    (sSeq S_law_0_6
    (sSeq S_law_0_7
    (sSeq S_law_0_8
    (sSeq S_law_0_9
    (sSeq S_law_0_10
    (sSeq S_law_0_11
    S_law_0_12))))))))))))
abbrev S_law_0 : FS := (sFor (lSeq (eOp dAdd (eFz (nLst (lCons (eC (.int 0)) lNil))) (eSl (eV 0) oNone (oSome (eC (.int 6)))))) (gN 1) L_law_0)
abbrev S_law_1 : FS := (sRet (eC (.bool true)))
abbrev s_law : Stmt := top 42
theorem sc_law : FnScope ["script", "cell", "deck", "one", "other", "edition", "word", "told", "sign", "more", "small"] ["script"] (defScope s_law) := ⟨rfl, rfl, rfl, by decide +kernel, rfl, by decide +kernel, by decide +kernel⟩
def B_law : FS := (sSeq S_law_0
    S_law_1)
def F_law : FnS := callF 11 B_law
structure Txt (K : Fg) (mg : Str → Option Value) : Prop where
  n_all : mg "all" = none
  n_any : mg "any" = none
  n_int : mg "int" = none
  n_isinstance : mg "isinstance" = none
  n_len : mg "len" = none
  n_max : mg "max" = none
  n_min : mg "min" = none
  n_range : mg "range" = none
  n_sorted : mg "sorted" = none
  n_str : mg "str" = none
  n_sum : mg "sum" = none
  n_tuple : mg "tuple" = none
  g_MOST : GlD K mg "MOST" k_MOST
  g_LAST : GlD K mg "LAST" k_LAST
  g_FIGURES : GlD K mg "FIGURES" k_FIGURES
  g_FIRST : GlD K mg "FIRST" k_FIRST
  g_ANY : GlD K mg "ANY" k_ANY
  g_NONE : GlD K mg "NONE" k_NONE
  g_MOST_BOUNDS : GlD K mg "MOST_BOUNDS" k_MOST_BOUNDS
  a_place_of : At K mg "place_of" s_place_of ["edition"]
  a_edition_at : At K mg "edition_at" s_edition_at ["place"]
  a_follows : At K mg "follows" s_follows ["edition"]
  a_show_edition : At K mg "show_edition" s_show_edition ["edition"]
  a_number_in : At K mg "number_in" s_number_in ["word", "most"]
  a_read_edition : At K mg "read_edition" s_read_edition ["text"]
  a_spans_of : At K mg "spans_of" s_spans_of ["one"]
  a_joined : At K mg "joined" s_joined ["spans"]
  a_both : At K mg "both" s_both ["one", "other"]
  a_either : At K mg "either" s_either ["one", "other"]
  a_rest : At K mg "rest" s_rest ["one"]
  a_has : At K mg "has" s_has ["one", "edition"]
  a_is_within : At K mg "is_within" s_is_within ["one", "other"]
  a_count : At K mg "count" s_count ["one"]
  a_show_stretch : At K mg "show_stretch" s_show_stretch ["low", "high"]
  a_show_range : At K mg "show_range" s_show_range ["one"]
  a_top_of : At K mg "top_of" s_top_of ["mark", "edition"]
  a_bound_range : At K mg "bound_range" s_bound_range ["word"]
  a_part_range : At K mg "part_range" s_part_range ["part"]
  a_read_range : At K mg "read_range" s_read_range ["thing"]
  a__law_deck : At K mg "_law_deck" s__law_deck ["cell", "turn"]
  a__law_pick : At K mg "_law_pick" s__law_pick ["deck", "many"]
  a__law_edition : At K mg "_law_edition" s__law_edition ["deck"]
  a__law_place : At K mg "_law_place" s__law_place ["edition"]
  a__law_at : At K mg "_law_at" s__law_at ["place"]
  a__law_joined : At K mg "_law_joined" s__law_joined ["spans"]
  a__law_span : At K mg "_law_span" s__law_span ["deck"]
  a__law_hat_right : At K mg "_law_hat_right" s__law_hat_right ["edition", "hat"]
  a__law_walked : At K mg "_law_walked" s__law_walked ["span"]
  a_law : At K mg "law" s_law ["script"]
section
variable {P : Program} {K : Fg} {mg : Str → Option Value} {base : Heap}
theorem ok_place_of (T : Txt K mg)  : Ok P K mg base 1 "place_of" ["edition"] F_place_of :=
  mk_ok (k := 0) T.a_place_of sc_place_of fun f cdv A outer s H E hr => (b1 (sret (xop opAdd (xop opAdd (xop opMul (xix (ixD hr.units) (xv 0) xi) xi) (xop opMul (xix (ixD hr.units) (xv 0) xi) xi)) (xix (ixD hr.units) (xv 0) xi))))
theorem ok_edition_at (T : Txt K mg)  : Ok P K mg base 1 "edition_at" ["place"] F_edition_at :=
  mk_ok (k := 0) T.a_edition_at sc_edition_at fun f cdv A outer s H E hr => (b1 (sret (xt (ac (xop opDiv (xv 0) xi) (ac (xop opMod (xop opDiv (xv 0) xi) xi) (ac (xop opMod (xv 0) xi) an))))))
theorem ok_follows (T : Txt K mg) (h_edition_at : Ok P K mg base 1 "edition_at" ["place"] F_edition_at) (h_place_of : Ok P K mg base 1 "place_of" ["edition"] F_place_of) : Ok P K mg base 2 "follows" ["edition"] F_follows :=
  mk_ok (k := 1) T.a_follows sc_follows fun f cdv A outer s H E hr => (b1 (sret (xif (tcmp (opEq hr.units) (xv 0) (xg T.g_LAST)) xn (xc h_edition_at (hr.mono (by decide)) (ac' (xop opAdd (xc h_place_of (hr.mono (by decide)) (ac' (xv 0) an') (lc ln)) xi) an') (lc ln)))))
theorem ok_show_edition (T : Txt K mg)  : Ok P K mg base 1 "show_edition" ["edition"] F_show_edition :=
  mk_ok (k := 0) T.a_show_edition sc_show_edition fun f cdv A outer s H E hr => (b1 (sret (xj (jc (jd (xix (ixD hr.units) (xv 0) xi)) (jc xs (jc (jd (xix (ixD hr.units) (xv 0) xi)) (jc xs (jc (jd (xix (ixD hr.units) (xv 0) xi)) jn))))))))
theorem ok_number_in (T : Txt K mg)  : Ok P K mg base 1 "number_in" ["word", "most"] F_number_in :=
  mk_ok (k := 0) T.a_number_in sc_number_in fun f cdv A outer s H E hr => (bc (sif (PW.pt (tor (tnot (tch (opLe hr.units) (opLe hr.units) xi (xcb cLen T.n_len bt_len (ac (xv 0) an)) (xcb cLen T.n_len bt_len (ac (xct cStr T.n_str bt_str (ac (xv 1) an)) an)))) (tor1 (tnot (tv (xcb (cAll rfl) T.n_all bt_all (ac (pe_fz (xlc [("sign", 2)] sc_number_in.nd (iseq (xv 0)) (by kernel_rfl) (fun _ _ _ _ _ => (gn 2 sc_number_in.nd)) (fun _ _ _ _ _ => tyes) (fun _ _ _ _ _ => (xcmp (opIn hr.units) (xv 2) (xg T.g_FIGURES))))) an))))))) (b1 (sret xn)) bn)
    (bc (sif (PW.pt (tor (PW.pt (tand (tcmp (opEq hr.units) (xix (ixD hr.units) (xv 0) xi) xs) (tand1 (tcmp (opNe hr.units) (xv 0) xs)))) (tor1 (tcmp (opGt hr.units) (xct cInt T.n_int bt_int (ac (xv 0) an)) (xv 1))))) (b1 (sret xn)) bn)
    (b1 (sret (xct cInt T.n_int bt_int (ac (xv 0) an))))))
theorem ok_read_edition (T : Txt K mg) (h_number_in : Ok P K mg base 1 "number_in" ["word", "most"] F_number_in) : Ok P K mg base 2 "read_edition" ["text"] F_read_edition :=
  mk_ok (k := 1) T.a_read_edition sc_read_edition fun f cdv A outer s H E hr => (bc (sfz (fun I => I.slen) (xsetLc 1 [("word", 2)] sc_read_edition.nd (iseq (pe_fz (mSplit (xv 0) xs))) (by kernel_rfl) (fun _ _ _ _ _ => (gn 2 sc_read_edition.nd)) (fun _ _ _ _ _ => tyes) (fun _ _ _ _ _ => (xc h_number_in (hr.mono (by decide)) (ac' (xv 2) (ac' (xg T.g_MOST) an')) (lc (lc ln)))) rfl))
    (b1 (sret (xif (PW.pt (tand (tcmp (opEq hr.units) (xcb cLen T.n_len bt_len (ac (xv 1) an)) xi) (tand1 (tcmp (opNin hr.units) xn (xv 1))))) (xct cTuple T.n_tuple bt_tuple (ac (xv 1) an)) xn))))
theorem ok_spans_of (T : Txt K mg) (h_place_of : Ok P K mg base 1 "place_of" ["edition"] F_place_of) : Ok P K mg base 2 "spans_of" ["one"] F_spans_of :=
  mk_ok (k := 1) T.a_spans_of sc_spans_of fun f cdv A outer s H E hr => (b1 (sret (pe_fz (xlc [("low", 1), ("high", 2)] sc_spans_of.nd (iseq (xv 0)) (by kernel_rfl) (fun _ _ _ _ _ => (gt rfl (gsc (gn 1 sc_spans_of.nd) (gsc (gn 2 sc_spans_of.nd) gsn)))) (fun _ _ _ _ _ => tyes) (fun _ _ _ _ _ => (xt (ac (xc h_place_of (hr.mono (by decide)) (ac' (xv 1) an') (lc ln)) (ac (xc h_place_of (hr.mono (by decide)) (ac' (xv 2) an') (lc ln)) an))))))))
theorem ok_joined (T : Txt K mg) (h_edition_at : Ok P K mg base 1 "edition_at" ["place"] F_edition_at) : Ok P K mg base 2 "joined" ["spans"] F_joined :=
  mk_ok (k := 1) T.a_joined sc_joined fun f cdv A outer s H E hr => (bc (sown 1 sc_joined.nd (xl an))
    (bc (sfor (ws := [2, 3]) PassesOwn.never rfl (iseq (pe_fz (xcbN (cSortedN rfl hr.units) T.n_sorted bt_sorted (ac (xv 0) an)))) (gt rfl (gsc (gn 2 sc_joined.nd) (gsc (gn 3 sc_joined.nd) gsn))) (b1 (sif (PW.pt (tand (tpkl 1 (opNe hr.units) (pv 1) (pe_fz (xl an))) (tand1 (tcmp (opLe hr.units) (xv 2) (xop opAdd (xix (ixD hr.units) (xoix 1 (pe_ix ix_list (pv 1) (xun unNeg xi) (fun _ _ => rfl))) xi) xi))))) (b1 (ssetL 1 (ps_asg (xt (ac (xix (ixD hr.units) (xoix 1 (pe_ix ix_list (pv 1) (xun unNeg xi) (fun _ _ => rfl))) xi) (ac (xcb (cMax rfl) T.n_max bt_max (ac (xix (ixD hr.units) (xoix 1 (pe_ix ix_list (pv 1) (xun unNeg xi) (fun _ _ => rfl))) xi) (ac (xv 3) an))) an))) (pg_sub (pv 1) (xun unNeg xi) set_list)))) (b1 (sif (tcmp (opLe hr.units) (xv 2) (xv 3)) (b1 (sapp 1 (ps_expr (pe_bm PySem.F.plainAttrs_list PySem.F.slot_list_append PySem.F.type_list_append mt_append (pv 1) (pa_cons (xt (ac (xv 2) (ac (xv 3) an))) pa_nil))))) bn)))))
    (b1 (sret (xct cTuple T.n_tuple bt_tuple (ac (pe_fz (xlc [("low", 2), ("high", 3)] sc_joined.nd (iseq (xvf 1)) (by kernel_rfl) (fun _ _ _ _ _ => (gt rfl (gsc (gn 2 sc_joined.nd) (gsc (gn 3 sc_joined.nd) gsn)))) (fun _ _ _ _ _ => tyes) (fun _ _ _ _ _ => (xt (ac (xc h_edition_at (hr.mono (by decide)) (ac' (xv 2) an') (lc ln)) (ac (xc h_edition_at (hr.mono (by decide)) (ac' (xv 3) an') (lc ln)) an)))))) an))))))
theorem ok_both (T : Txt K mg) (h_joined : Ok P K mg base 2 "joined" ["spans"] F_joined) (h_spans_of : Ok P K mg base 2 "spans_of" ["one"] F_spans_of) : Ok P K mg base 3 "both" ["one", "other"] F_both :=
  mk_ok (k := 2) T.a_both sc_both fun f cdv A outer s H E hr => (bc (sfz (fun I => I.slen) (xsetLc2 2 [("a", 3), ("b", 4)] sc_both.nd (iseq (xc h_spans_of (hr.mono (by decide)) (ac' (xv 0) an') (lc ln))) (by kernel_rfl) (by decide) (fun _ _ _ _ _ => (gn 3 sc_both.nd)) (fun _ _ _ _ _ => tyes) (fun _ _ _ _ _ => (iseq (xc h_spans_of (hr.mono (by decide)) (ac' (xv 1) an') (lc ln)))) (fun _ _ _ _ _ => (gn 4 sc_both.nd)) (fun _ _ _ _ _ => tyes) (fun _ _ _ _ _ => (xt (ac (xcb (cMax rfl) T.n_max bt_max (ac (xix (ixD hr.units) (xv 3) xi) (ac (xix (ixD hr.units) (xv 4) xi) an))) (ac (xcb (cMin rfl) T.n_min bt_min (ac (xix (ixD hr.units) (xv 3) xi) (ac (xix (ixD hr.units) (xv 4) xi) an))) an)))) rfl))
    (b1 (sret (xc h_joined (hr.mono (by decide)) (ac' (pe_fz (xlc [("span", 5)] sc_both.nd (iseq (xv 2)) (by kernel_rfl) (fun _ _ _ _ _ => (gn 5 sc_both.nd)) (fun _ _ _ _ _ => (pts_one (tcmp (opLe hr.units) (xix (ixD hr.units) (xv 5) xi) (xix (ixD hr.units) (xv 5) xi)))) (fun _ _ _ _ _ => (xv 5)))) an') (lc ln)))))
theorem ok_either (T : Txt K mg) (h_joined : Ok P K mg base 2 "joined" ["spans"] F_joined) (h_spans_of : Ok P K mg base 2 "spans_of" ["one"] F_spans_of) : Ok P K mg base 3 "either" ["one", "other"] F_either :=
  mk_ok (k := 2) T.a_either sc_either fun f cdv A outer s H E hr => (b1 (sret (xc h_joined (hr.mono (by decide)) (ac' (xop opAdd (xc h_spans_of (hr.mono (by decide)) (ac' (xv 0) an') (lc ln)) (xc h_spans_of (hr.mono (by decide)) (ac' (xv 1) an') (lc ln))) an') (lc ln))))
theorem ok_rest (T : Txt K mg) (h_spans_of : Ok P K mg base 2 "spans_of" ["one"] F_spans_of) (h_joined : Ok P K mg base 2 "joined" ["spans"] F_joined) (h_place_of : Ok P K mg base 1 "place_of" ["edition"] F_place_of) : Ok P K mg base 3 "rest" ["one"] F_rest :=
  mk_ok (k := 2) T.a_rest sc_rest fun f cdv A outer s H E hr => (bc (sown 1 sc_rest.nd (xl an))
    (bc (sset 2 sc_rest.nd xi)
    (bc (sfor (ws := [3, 4]) PassesOwn.never rfl (iseq (xc h_spans_of (hr.mono (by decide)) (ac' (xv 0) an') (lc ln))) (gt rfl (gsc (gn 3 sc_rest.nd) (gsc (gn 4 sc_rest.nd) gsn))) (bc (sapp 1 (ps_expr (pe_bm PySem.F.plainAttrs_list PySem.F.slot_list_append PySem.F.type_list_append mt_append (pv 1) (pa_cons (xt (ac (xv 2) (ac (xop opSub (xv 3) xi) an))) pa_nil))))
    (b1 (sset 2 sc_rest.nd (xop opAdd (xv 4) xi)))))
    (bc (sapp 1 (ps_expr (pe_bm PySem.F.plainAttrs_list PySem.F.slot_list_append PySem.F.type_list_append mt_append (pv 1) (pa_cons (xt (ac (xv 2) (ac (xc h_place_of (hr.mono (by decide)) (ac' (xg T.g_LAST) an') (lc ln)) an))) pa_nil))))
    (b1 (sret (xc h_joined (hr.mono (by decide)) (ac' (pe_fz (xlc [("span", 5)] sc_rest.nd (iseq (xvf 1)) (by kernel_rfl) (fun _ _ _ _ _ => (gn 5 sc_rest.nd)) (fun _ _ _ _ _ => (pts_one (tcmp (opLe hr.units) (xix (ixD hr.units) (xv 5) xi) (xix (ixD hr.units) (xv 5) xi)))) (fun _ _ _ _ _ => (xv 5)))) an') (lc ln))))))))
theorem ok_has (T : Txt K mg)  : Ok P K mg base 1 "has" ["one", "edition"] F_has :=
  mk_ok (k := 0) T.a_has sc_has fun f cdv A outer s H E hr => (b1 (sret (xcb (cAny rfl) T.n_any bt_any (ac (pe_fz (xlc [("low", 2), ("high", 3)] sc_has.nd (iseq (xv 0)) (by kernel_rfl) (fun _ _ _ _ _ => (gt rfl (gsc (gn 2 sc_has.nd) (gsc (gn 3 sc_has.nd) gsn)))) (fun _ _ _ _ _ => tyes) (fun _ _ _ _ _ => (xch (opLe hr.units) (opLe hr.units) (xv 2) (xv 1) (xv 3))))) an))))
theorem ok_is_within (T : Txt K mg) (h_both : Ok P K mg base 3 "both" ["one", "other"] F_both) : Ok P K mg base 4 "is_within" ["one", "other"] F_is_within :=
  mk_ok (k := 3) T.a_is_within sc_is_within fun f cdv A outer s H E hr => (b1 (sret (xcmp (opEq hr.units) (xc h_both (hr.mono (by decide)) (ac' (xv 0) (ac' (xv 1) an')) (lc (lc ln))) (xv 0))))
theorem ok_count (T : Txt K mg) (h_spans_of : Ok P K mg base 2 "spans_of" ["one"] F_spans_of) : Ok P K mg base 3 "count" ["one"] F_count :=
  mk_ok (k := 2) T.a_count sc_count fun f cdv A outer s H E hr => (b1 (sret (xcb (cSum rfl) T.n_sum bt_sum (ac (pe_fz (xlc [("low", 1), ("high", 2)] sc_count.nd (iseq (xc h_spans_of (hr.mono (by decide)) (ac' (xv 0) an') (lc ln))) (by kernel_rfl) (fun _ _ _ _ _ => (gt rfl (gsc (gn 1 sc_count.nd) (gsc (gn 2 sc_count.nd) gsn)))) (fun _ _ _ _ _ => tyes) (fun _ _ _ _ _ => (xop opAdd (xop opSub (xv 2) (xv 1)) xi)))) an))))
theorem ok_show_stretch (T : Txt K mg) (h_show_edition : Ok P K mg base 1 "show_edition" ["edition"] F_show_edition) : Ok P K mg base 2 "show_stretch" ["low", "high"] F_show_stretch :=
  mk_ok (k := 1) T.a_show_stretch sc_show_stretch fun f cdv A outer s H E hr => (bc (sif (tcmp (opEq hr.units) (xv 0) (xv 1)) (b1 (sret (xj (jc xs (jc (jd (xc h_show_edition (hr.mono (by decide)) (ac' (xv 0) an') (lc ln))) jn))))) bn)
    (bc (sif (tcmp (opEq hr.units) (xv 0) (xg T.g_FIRST)) (b1 (sret (xj (jc xs (jc (jd (xc h_show_edition (hr.mono (by decide)) (ac' (xv 1) an') (lc ln))) jn))))) bn)
    (bc (sif (tcmp (opEq hr.units) (xv 1) (xg T.g_LAST)) (b1 (sret (xj (jc xs (jc (jd (xc h_show_edition (hr.mono (by decide)) (ac' (xv 0) an') (lc ln))) jn))))) bn)
    (b1 (sret (xj (jc xs (jc (jd (xc h_show_edition (hr.mono (by decide)) (ac' (xv 0) an') (lc ln))) (jc xs (jc (jd (xc h_show_edition (hr.mono (by decide)) (ac' (xv 1) an') (lc ln))) jn))))))))))
theorem ok_show_range (T : Txt K mg) (h_show_stretch : Ok P K mg base 2 "show_stretch" ["low", "high"] F_show_stretch) : Ok P K mg base 3 "show_range" ["one"] F_show_range :=
  mk_ok (k := 2) T.a_show_range sc_show_range fun f cdv A outer s H E hr => (bc (sif (tcmp (opEq hr.units) (xv 0) (xg T.g_NONE)) (b1 (sret xs)) bn)
    (bc (sif (tcmp (opEq hr.units) (xv 0) (xg T.g_ANY)) (b1 (sret xs)) bn)
    (b1 (sret (mJoin xs (pe_fz (xlc [("low", 1), ("high", 2)] sc_show_range.nd (iseq (xv 0)) (by kernel_rfl) (fun _ _ _ _ _ => (gt rfl (gsc (gn 1 sc_show_range.nd) (gsc (gn 2 sc_show_range.nd) gsn)))) (fun _ _ _ _ _ => tyes) (fun _ _ _ _ _ => (xc h_show_stretch (hr.mono (by decide)) (ac' (xv 1) (ac' (xv 2) an')) (lc (lc ln)))))))))))
theorem ok_top_of (T : Txt K mg)  : Ok P K mg base 1 "top_of" ["mark", "edition"] F_top_of :=
  mk_ok (k := 0) T.a_top_of sc_top_of fun f cdv A outer s H E hr => (bc (sasg (ws := [2, 3, 4]) (xv 1) (gt rfl (gsc (gn 2 sc_top_of.nd) (gsc (gn 3 sc_top_of.nd) (gsc (gn 4 sc_top_of.nd) gsn)))))
    (bc (sif (tcmp (opEq hr.units) (xv 0) xs) (b1 (sret (xt (ac (xv 2) (ac (xv 3) (ac xi an)))))) bn)
    (bc (sif (tcmp (opGt hr.units) (xv 2) xi) (b1 (sret (xt (ac (xv 2) (ac xi (ac xi an)))))) bn)
    (b1 (sret (xif (tcmp (opGt hr.units) (xv 3) xi) (xt (ac xi (ac (xv 3) (ac xi an)))) (xv 1)))))))
theorem ok_bound_range (T : Txt K mg) (h_read_edition : Ok P K mg base 2 "read_edition" ["text"] F_read_edition) (h_place_of : Ok P K mg base 1 "place_of" ["edition"] F_place_of) (h_joined : Ok P K mg base 2 "joined" ["spans"] F_joined) (h_top_of : Ok P K mg base 1 "top_of" ["mark", "edition"] F_top_of) : Ok P K mg base 3 "bound_range" ["word"] F_bound_range :=
  mk_ok (k := 2) T.a_bound_range sc_bound_range fun f cdv A outer s H E hr => (bc (sfz (fun I => I.slen) (xsetLc 1 [("mark", 2)] sc_bound_range.nd (iseq (xt (ac xs (ac xs (ac xs (ac xs (ac xs (ac xs (ac xs an))))))))) (by kernel_rfl) (fun _ _ _ _ _ => (gn 2 sc_bound_range.nd)) (fun _ _ _ _ _ => (pts_one (tv (mStarts (xv 0) (xv 2))))) (fun _ _ _ _ _ => (xv 2)) rfl))
    (bc (sif (tcmp (opEq hr.units) (xv 1) (pe_fz (xl an))) (b1 (sret xn)) bn)
    (bc (sset 2 sc_bound_range.nd (xix (ixD hr.units) (xv 1) xi))
    (bc (sset 3 sc_bound_range.nd (xc h_read_edition (hr.mono (by decide)) (ac' (xsl (xv 0) (os (xcb cLen T.n_len bt_len (ac (xv 2) an))) on) an') (lc ln)))
    (bc (sif (tcmp opIsN (xv 3) xn) (b1 (sret xn)) bn)
    (bc (spar (ps_par rfl sc_bound_range.nd rfl rfl (by decide) rfl rfl (ac (xc h_place_of (hr.mono (by decide)) (ac' (xv 3) an') (lc ln)) (ac (xc h_place_of (hr.mono (by decide)) (ac' (xg T.g_LAST) an') (lc ln)) an)) (by rfl)))
    (bc (sif (tcmp (opIn hr.units) (xv 2) (xt (ac xs (ac xs an)))) (b1 (sret (xt (ac (xt (ac (xv 3) (ac (xc h_top_of (hr.mono (by decide)) (ac' (xv 2) (ac' (xv 3) an')) (lc (lc ln))) an))) an)))) bn)
    (bc (sset 6 sc_bound_range.nd (pe_fz (xdsp (pc xs (xt (ac xi (ac (xv 4) an))) (pc xs (xt (ac (xv 4) (ac (xv 5) an))) (pc xs (xt (ac xi (ac (xop opSub (xv 4) xi) an))) (pc xs (xt (ac (xop opAdd (xv 4) xi) (ac (xv 5) an))) (pc xs (xt (ac (xv 4) (ac (xv 4) an))) pn))))))))
    (b1 (sret (xif (tcmp (opLe hr.units) (xix (ixD hr.units) (xix (ixD hr.units) (xv 6) (xv 2)) xi) (xix (ixD hr.units) (xix (ixD hr.units) (xv 6) (xv 2)) xi)) (xc h_joined (hr.mono (by decide)) (ac' (pe_fz (xl (ac (xix (ixD hr.units) (xv 6) (xv 2)) an))) an') (lc ln)) (xg T.g_NONE))))))))))))
theorem ok_part_range (T : Txt K mg) (h_bound_range : Ok P K mg base 3 "bound_range" ["word"] F_bound_range) (h_both : Ok P K mg base 3 "both" ["one", "other"] F_both) : Ok P K mg base 4 "part_range" ["part"] F_part_range :=
  mk_ok (k := 3) T.a_part_range sc_part_range fun f cdv A outer s H E hr => (bc (sif (tcmp (opIn hr.units) (xv 0) (xt (ac xs (ac xs an)))) (b1 (sret (xif (tcmp (opEq hr.units) (xv 0) xs) (xg T.g_NONE) (xg T.g_ANY)))) bn)
    (bc (sfz (fun I => I.slen) (xsetLc 1 [("word", 4)] sc_part_range.nd (iseq (pe_fz (mSplit (xv 0) xs))) (by kernel_rfl) (fun _ _ _ _ _ => (gn 4 sc_part_range.nd)) (fun _ _ _ _ _ => tyes) (fun _ _ _ _ _ => (xc h_bound_range (hr.mono (by decide)) (ac' (xv 4) an') (lc ln))) rfl))
    (bc (sif (PW.pt (tor (tcmp (opIn hr.units) xn (xv 1)) (tor1 (tcmp (opGt hr.units) (xcb cLen T.n_len bt_len (ac (xv 1) an)) (xg T.g_MOST_BOUNDS))))) (b1 (sret xn)) bn)
    (bc (sset 2 sc_part_range.nd (xg T.g_ANY))
    (bc (sfor (ws := [3]) PassesOwn.never rfl (iseq (xv 1)) (gn 3 sc_part_range.nd) (b1 (sset 2 sc_part_range.nd (xc h_both (hr.mono (by decide)) (ac' (xv 2) (ac' (xv 3) an')) (lc (lc ln))))))
    (b1 (sret (xv 2))))))))
theorem ok_read_range (T : Txt K mg) (h_part_range : Ok P K mg base 4 "part_range" ["part"] F_part_range) (h_either : Ok P K mg base 3 "either" ["one", "other"] F_either) : Ok P K mg base 5 "read_range" ["thing"] F_read_range :=
  mk_ok (k := 4) T.a_read_range sc_read_range fun f cdv A outer s H E hr => (bc (sif (tnot (tv (xis (.inr (.inr (.inl rfl))) (xv 0) T.n_isinstance T.n_str bt_str))) (b1 sno) bn)
    (bc (sfz (fun I => I.slen) (xsetLc 1 [("part", 3)] sc_read_range.nd (iseq (pe_fz (mSplit (xv 0) xs))) (by kernel_rfl) (fun _ _ _ _ _ => (gn 3 sc_read_range.nd)) (fun _ _ _ _ _ => tyes) (fun _ _ _ _ _ => (xc h_part_range (hr.mono (by decide)) (ac' (xv 3) an') (lc ln))) rfl))
    (bc (sif (tcmp (opIn hr.units) xn (xv 1)) (b1 sno) bn)
    (bc (sset 2 sc_read_range.nd (xg T.g_NONE))
    (bc (sfor (ws := [3]) PassesOwn.never rfl (iseq (xv 1)) (gn 3 sc_read_range.nd) (b1 (sset 2 sc_read_range.nd (xc h_either (hr.mono (by decide)) (ac' (xv 2) (ac' (xv 3) an')) (lc (lc ln))))))
    (b1 (sret (xv 2))))))))
theorem ok__law_deck (T : Txt K mg)  : Ok P K mg base 1 "_law_deck" ["cell", "turn"] F__law_deck :=
  mk_ok (k := 0) T.a__law_deck sc__law_deck fun f cdv A outer s H E hr => (bc (sif (tcmp (opGe hr.units) (xv 0) (xop opPow xi xi)) (b1 (sretN (xl (ac (xop opSub (xv 0) (xop opPow xi xi)) (ac (xop opMod (xv 0) xi) (ac (xv 1) an)))))) bn)
    (b1 (sretN (xl (ac xi (ac (xop opMod (xv 0) xi) (ac (xv 1) an)))))))
theorem ok__law_pick (T : Txt K mg)  : Ok P K mg base 1 "_law_pick" ["deck", "many"] F__law_pick :=
  mk_ok (k := 0) T.a__law_pick sc__law_pick fun f cdv A outer s H E hr => (bc (sif (tcmp (opGt hr.units) (xoix 0 (pe_ix ix_list (pv 0) xi (fun _ _ => rfl))) xi) (bc (sset 2 sc__law_pick.nd (xop opMod (xoix 0 (pe_ix ix_list (pv 0) xi (fun _ _ => rfl))) (xv 1)))
    (bc (ssetL 0 (ps_asg (xop opDiv (xoix 0 (pe_ix ix_list (pv 0) xi (fun _ _ => rfl))) (xv 1)) (pg_sub (pv 0) xi set_list)))
    (b1 (sret (xv 2))))) bn)
    (bc (ssetL 0 (ps_asg (xop opAdd (xoix 0 (pe_ix ix_list (pv 0) xi (fun _ _ => rfl))) xi) (pg_sub (pv 0) xi set_list)))
    (bc (sset 3 sc__law_pick.nd (xop opMod (xop opPow (xop opAdd (xoix 0 (pe_ix ix_list (pv 0) xi (fun _ _ => rfl))) (xop opMul xi (xoix 0 (pe_ix ix_list (pv 0) xi (fun _ _ => rfl))))) xi) xi))
    (bc (sset 2 sc__law_pick.nd (xop opDiv (xop opMod (xop opPow (xop opAdd (xv 3) (xop opMul xi (xoix 0 (pe_ix ix_list (pv 0) xi (fun _ _ => rfl))))) xi) xi) xi))
    (bc (sif (tcmp (opGt hr.units) (xv 1) xi) (b1 (sret (xop opMod (xop opAdd (xop opMul (xv 2) xi) (xv 3)) (xv 1)))) bn)
    (b1 (sret (xop opMod (xv 2) (xv 1)))))))))
theorem ok__law_edition (T : Txt K mg) (h__law_pick : Ok P K mg base 1 "_law_pick" ["deck", "many"] F__law_pick) : Ok P K mg base 2 "_law_edition" ["deck"] F__law_edition :=
  mk_ok (k := 1) T.a__law_edition sc__law_edition fun f cdv A outer s H E hr => (bc (sset 1 sc__law_edition.nd (xc h__law_pick (hr.mono (by decide)) (ar 0 (ac' xi an')) (lr (lc ln))))
    (bc (sif (tcmp (opLt hr.units) (xv 1) xi) (b1 (sret (xt (ac (xc h__law_pick (hr.mono (by decide)) (ar 0 (ac' xi an')) (lr (lc ln))) (ac (xc h__law_pick (hr.mono (by decide)) (ar 0 (ac' xi an')) (lr (lc ln))) (ac xi an)))))) bn)
    (bc (sset 2 sc__law_edition.nd (pe_fz (xl (ac xi (ac xi (ac xi (ac (xc h__law_pick (hr.mono (by decide)) (ar 0 (ac' xi an')) (lr (lc ln))) an)))))))
    (b1 (sret (xt (ac (xix (ixD hr.units) (xv 2) (xc h__law_pick (hr.mono (by decide)) (ar 0 (ac' xi an')) (lr (lc ln)))) (ac (xix (ixD hr.units) (xv 2) (xc h__law_pick (hr.mono (by decide)) (ar 0 (ac' xi an')) (lr (lc ln)))) (ac (xix (ixD hr.units) (xv 2) (xc h__law_pick (hr.mono (by decide)) (ar 0 (ac' xi an')) (lr (lc ln)))) an)))))))))
theorem ok__law_place (T : Txt K mg)  : Ok P K mg base 1 "_law_place" ["edition"] F__law_place :=
  mk_ok (k := 0) T.a__law_place sc__law_place fun f cdv A outer s H E hr => (b1 (sret (xop opAdd (xop opAdd (xop opMul (xix (ixD hr.units) (xv 0) xi) xi) (xop opMul (xix (ixD hr.units) (xv 0) xi) xi)) (xix (ixD hr.units) (xv 0) xi))))
theorem ok__law_at (T : Txt K mg)  : Ok P K mg base 1 "_law_at" ["place"] F__law_at :=
  mk_ok (k := 0) T.a__law_at sc__law_at fun f cdv A outer s H E hr => (b1 (sret (xt (ac (xop opDiv (xv 0) xi) (ac (xop opMod (xop opDiv (xv 0) xi) xi) (ac (xop opMod (xv 0) xi) an))))))
theorem ok__law_joined (T : Txt K mg) (h__law_at : Ok P K mg base 1 "_law_at" ["place"] F__law_at) : Ok P K mg base 2 "_law_joined" ["spans"] F__law_joined :=
  mk_ok (k := 1) T.a__law_joined sc__law_joined fun f cdv A outer s H E hr => (bc (sown 1 sc__law_joined.nd (xl an))
    (bc (sfor (ws := [2, 3]) PassesOwn.never rfl (iseq (pe_fz (xcbN (cSortedN rfl hr.units) T.n_sorted bt_sorted (ac (xv 0) an)))) (gt rfl (gsc (gn 2 sc__law_joined.nd) (gsc (gn 3 sc__law_joined.nd) gsn))) (b1 (sif (PW.pt (tand (tpkl 1 (opNe hr.units) (pv 1) (pe_fz (xl an))) (tand1 (tcmp (opLe hr.units) (xv 2) (xop opAdd (xix (ixD hr.units) (xoix 1 (pe_ix ix_list (pv 1) (xun unNeg xi) (fun _ _ => rfl))) xi) xi))))) (b1 (ssetL 1 (ps_asg (xt (ac (xix (ixD hr.units) (xoix 1 (pe_ix ix_list (pv 1) (xun unNeg xi) (fun _ _ => rfl))) xi) (ac (xcb (cMax rfl) T.n_max bt_max (ac (xv 3) (ac (xix (ixD hr.units) (xoix 1 (pe_ix ix_list (pv 1) (xun unNeg xi) (fun _ _ => rfl))) xi) an))) an))) (pg_sub (pv 1) (xun unNeg xi) set_list)))) (b1 (sapp 1 (ps_expr (pe_bm PySem.F.plainAttrs_list PySem.F.slot_list_append PySem.F.type_list_append mt_append (pv 1) (pa_cons (xt (ac (xv 2) (ac (xv 3) an))) pa_nil))))))))
    (b1 (sret (xct cTuple T.n_tuple bt_tuple (ac (pe_fz (xlc [("low", 2), ("high", 3)] sc__law_joined.nd (iseq (xvf 1)) (by kernel_rfl) (fun _ _ _ _ _ => (gt rfl (gsc (gn 2 sc__law_joined.nd) (gsc (gn 3 sc__law_joined.nd) gsn)))) (fun _ _ _ _ _ => tyes) (fun _ _ _ _ _ => (xt (ac (xc h__law_at (hr.mono (by decide)) (ac' (xv 2) an') (lc ln)) (ac (xc h__law_at (hr.mono (by decide)) (ac' (xv 3) an') (lc ln)) an)))))) an))))))
theorem ok__law_span (T : Txt K mg) (h__law_pick : Ok P K mg base 1 "_law_pick" ["deck", "many"] F__law_pick) (h__law_joined : Ok P K mg base 2 "_law_joined" ["spans"] F__law_joined) (h__law_place : Ok P K mg base 1 "_law_place" ["edition"] F__law_place) (h__law_edition : Ok P K mg base 2 "_law_edition" ["deck"] F__law_edition) (h__law_at : Ok P K mg base 1 "_law_at" ["place"] F__law_at) : Ok P K mg base 3 "_law_span" ["deck"] F__law_span :=
  mk_ok (k := 2) T.a__law_span sc__law_span fun f cdv A outer s H E hr => (bc (sset 1 sc__law_span.nd (xc h__law_pick (hr.mono (by decide)) (ar 0 (ac' xi an')) (lr (lc ln))))
    (bc (sasgL (ws := [2, 3]) (ps_asg (pe_fz (xcbN (cSortedN rfl hr.units) T.n_sorted bt_sorted (ac (pe_fz (xl (ac (xc h__law_place (hr.mono (by decide)) (ac' (xc h__law_edition (hr.mono (by decide)) (ar 0 an') (lr ln)) an') (lc ln)) (ac (xc h__law_place (hr.mono (by decide)) (ac' (xc h__law_edition (hr.mono (by decide)) (ar 0 an') (lr ln)) an') (lc ln)) an)))) an))) (pg_lst rfl (gsc (gn 2 sc__law_span.nd) (gsc (gn 3 sc__law_span.nd) gsn)))))
    (bc (sif (tcmp (opLt hr.units) (xv 1) xi) (b1 (sret (xt (ac (xt (ac (xt (ac xi (ac xi (ac xi an)))) (ac (xt (ac xi (ac xi (ac xi an)))) an))) an)))) bn)
    (bc (sif (tcmp (opEq hr.units) (xv 1) xi) (b1 (sret (xt (ac (xt (ac (xc h__law_at (hr.mono (by decide)) (ac' (xv 2) an') (lc ln)) (ac (xt (ac xi (ac xi (ac xi an)))) an))) an)))) bn)
    (bc (sif (tcmp (opEq hr.units) (xv 1) xi) (b1 (sret (xt (ac (xt (ac (xt (ac xi (ac xi (ac xi an)))) (ac (xc h__law_at (hr.mono (by decide)) (ac' (xv 3) an') (lc ln)) an))) an)))) bn)
    (bc (sif (tcmp (opLt hr.units) (xv 1) xi) (b1 (sret (xt (ac (xt (ac (xc h__law_at (hr.mono (by decide)) (ac' (xv 2) an') (lc ln)) (ac (xc h__law_at (hr.mono (by decide)) (ac' (xv 3) an') (lc ln)) an))) an)))) bn)
    (bc (sif (tcmp (opEq hr.units) (xv 1) xi) (bc (sset 4 sc__law_span.nd (xc h__law_place (hr.mono (by decide)) (ac' (xc h__law_edition (hr.mono (by decide)) (ar 0 an') (lr ln)) an') (lc ln)))
    (b1 (sret (xc h__law_joined (hr.mono (by decide)) (ac' (pe_fz (xl (ac (xt (ac (xv 2) (ac (xv 2) an))) (ac (xt (ac (xv 3) (ac (xv 3) an))) (ac (xt (ac (xv 4) (ac (xcb (cMin rfl) T.n_min bt_min (ac xi (ac (xop opAdd (xv 4) (xc h__law_pick (hr.mono (by decide)) (ar 0 (ac' xi an')) (lr (lc ln)))) an))) an))) an))))) an') (lc ln))))) bn)
    (b1 (sret (xc h__law_joined (hr.mono (by decide)) (ac' (xop opMul (pe_fz (xl (ac (xt (ac (xv 2) (ac (xv 3) an))) an))) (xc h__law_pick (hr.mono (by decide)) (ar 0 (ac' xi an')) (lr (lc ln)))) an') (lc ln)))))))))))
theorem ok__law_hat_right (T : Txt K mg) (h_follows : Ok P K mg base 2 "follows" ["edition"] F_follows) : Ok P K mg base 3 "_law_hat_right" ["edition", "hat"] F__law_hat_right :=
  mk_ok (k := 2) T.a__law_hat_right sc__law_hat_right fun f cdv A outer s H E hr => (bc (sset 2 sc__law_hat_right.nd (xix (ixD hr.units) (xix (ixD hr.units) (xv 1) xi) xi))
    (bc (sif (PW.pt (tor (tcmp (opNe hr.units) (xix (ixD hr.units) (xix (ixD hr.units) (xv 1) xi) xi) (xv 0)) (tor1 (tcmp (opNe hr.units) (xcb cLen T.n_len bt_len (ac (xv 1) an)) xi)))) (b1 (sret xb)) bn)
    (bc (sfz (fun I => I.slen) (xsetLc 3 [("k", 5)] sc__law_hat_right.nd (irng1 T.n_range (ac xi an)) (by kernel_rfl) (fun _ _ _ _ _ => (gn 5 sc__law_hat_right.nd)) (fun _ _ _ _ _ => (pts_one (tcmp (opGt hr.units) (xix (ixD hr.units) (xv 0) (xv 5)) xi))) (fun _ _ _ _ _ => (xv 5)) rfl))
    (bc (sif (tcmp (opEq hr.units) (xv 3) (pe_fz (xl an))) (b1 (sret (xcmp (opEq hr.units) (xv 2) (xv 0)))) bn)
    (bc (sset 4 sc__law_hat_right.nd (xc h_follows (hr.mono (by decide)) (ac' (xv 2) an') (lc ln)))
    (bc (sif (tcmp (opNe hr.units) (xsl (xv 2) on (os (xop opAdd (xix (ixD hr.units) (xv 3) xi) xi))) (xsl (xv 0) on (os (xop opAdd (xix (ixD hr.units) (xv 3) xi) xi)))) (b1 (sret xb)) bn)
    (b1 (sret (xor (xcmp opIsN (xv 4) xn) (xone (xcmp (opNe hr.units) (xsl (xv 4) on (os (xop opAdd (xix (ixD hr.units) (xv 3) xi) xi))) (xsl (xv 0) on (os (xop opAdd (xix (ixD hr.units) (xv 3) xi) xi))))))))))))))
theorem ok__law_walked (T : Txt K mg) (h_follows : Ok P K mg base 2 "follows" ["edition"] F_follows) : Ok P K mg base 3 "_law_walked" ["span"] F__law_walked :=
  mk_ok (k := 2) T.a__law_walked sc__law_walked fun f cdv A outer s H E hr => (bc (sset 1 sc__law_walked.nd xi)
    (bc (sfor (ws := [2, 3]) PassesOwn.never rfl (iseq (xv 0)) (gt rfl (gsc (gn 2 sc__law_walked.nd) (gsc (gn 3 sc__law_walked.nd) gsn))) (bc (sset 4 sc__law_walked.nd (xv 2))
    (bc (swh fuelW PassesOwn.never (tcmp (opNe hr.units) (xv 4) (xv 3)) (bc (sset 1 sc__law_walked.nd (xop opAdd (xv 1) xi))
    (b1 (sset 4 sc__law_walked.nd (xc h_follows (hr.mono (by decide)) (ac' (xv 4) an') (lc ln))))))
    (b1 (sset 1 sc__law_walked.nd (xop opAdd (xv 1) xi))))))
    (b1 (sret (xv 1)))))
theorem ok_law (T : Txt K mg) (h__law_deck : Ok P K mg base 1 "_law_deck" ["cell", "turn"] F__law_deck) (h__law_edition : Ok P K mg base 2 "_law_edition" ["deck"] F__law_edition) (h_show_edition : Ok P K mg base 1 "show_edition" ["edition"] F_show_edition) (h_both : Ok P K mg base 3 "both" ["one", "other"] F_both) (h__law_span : Ok P K mg base 3 "_law_span" ["deck"] F__law_span) (h_read_range : Ok P K mg base 5 "read_range" ["thing"] F_read_range) (h_either : Ok P K mg base 3 "either" ["one", "other"] F_either) (h_rest : Ok P K mg base 3 "rest" ["one"] F_rest) (h_has : Ok P K mg base 1 "has" ["one", "edition"] F_has) (h__law_hat_right : Ok P K mg base 3 "_law_hat_right" ["edition", "hat"] F__law_hat_right) (h_count : Ok P K mg base 3 "count" ["one"] F_count) (h__law_walked : Ok P K mg base 3 "_law_walked" ["span"] F__law_walked) (h_show_range : Ok P K mg base 3 "show_range" ["one"] F_show_range) (h__law_pick : Ok P K mg base 1 "_law_pick" ["deck", "many"] F__law_pick) (h_is_within : Ok P K mg base 4 "is_within" ["one", "other"] F_is_within) : Ok P K mg base 6 "law" ["script"] F_law :=
  mk_ok (k := 5) T.a_law sc_law fun f cdv A outer s H E hr => (bc (sfor (ws := [1]) PassesOwn.never rfl (iseq (xop opAdd (pe_fz (xl (ac xi an))) (xsl (xv 0) on (os xi)))) (gn 1 sc_law.nd) (bc (sown 2 sc_law.nd (xcn h__law_deck (hr.mono (by decide)) (ac' (xv 1) (ac' xi an')) (lc (lc ln))))
    (bc (spar (ps_par rfl sc_law.nd rfl rfl (by decide) rfl rfl (ac (xc h__law_span (hr.mono (by decide)) (ar 2 an') (lr ln)) (ac (xc h__law_span (hr.mono (by decide)) (ar 2 an') (lr ln)) an)) (by rfl)))
    (bc (sif (tcmp (opNe hr.units) (xc h_read_range (hr.mono (by decide)) (ac' (xop opAdd (xop opAdd (xc h_show_range (hr.mono (by decide)) (ac' (xv 3) an') (lc ln)) xs) (xc h_show_range (hr.mono (by decide)) (ac' (xv 4) an') (lc ln))) an') (lc ln)) (xc h_either (hr.mono (by decide)) (ac' (xv 3) (ac' (xv 4) an')) (lc (lc ln)))) (b1 (sret xb)) bn)
    (bc (sset 5 sc_law.nd (xc h__law_edition (hr.mono (by decide)) (ar 2 an') (lr ln)))
    (bc (sset 6 sc_law.nd (xc h_show_edition (hr.mono (by decide)) (ac' (xv 5) an') (lc ln)))
    (bc (sown 7 sc_law.nd xdct)
    (bc (sfor (ws := [8]) PassesOwn.never rfl (iseq (pe_fz (xl (ac xs (ac xs (ac xs (ac xs (ac xs (ac xs (ac xs an)))))))))) (gn 8 sc_law.nd) (bc (ssetD 7 (ps_asg (xc h_read_range (hr.mono (by decide)) (ac' (xop opAdd (xv 8) (xv 6)) an') (lc ln)) (pg_sub (pv 7) (xv 8) (set_dict hr.units))))
    (bc (sset 9 sc_law.nd (xop opAdd (xix (ixD hr.units) (pe_fz (xl (ac xs (ac xs an)))) (xc h__law_pick (hr.mono (by decide)) (ar 2 (ac' xi an')) (lr (lc ln)))) (xc h_show_edition (hr.mono (by decide)) (ac' (xc h__law_edition (hr.mono (by decide)) (ar 2 an') (lr ln)) an') (lc ln))))
    (b1 (sif (tcmp (opNe hr.units) (xc h_read_range (hr.mono (by decide)) (ac' (xop opAdd (xop opAdd (xop opAdd (xv 8) (xv 6)) xs) (xv 9)) an') (lc ln)) (xc h_both (hr.mono (by decide)) (ac' (xoixD 7 (pe_ix (ixOD hr.units) (pv 7) (xv 8) (fun _ _ => rfl))) (ac' (xc h_read_range (hr.mono (by decide)) (ac' (xv 9) an') (lc ln)) an')) (lc (lc ln)))) (b1 (sret xb)) bn)))))
    (bc (sif (PW.pt (tor (tcmp (opNe hr.units) (xc h_rest (hr.mono (by decide)) (ac' (xix (ixD hr.units) (xvf 7) xs) an') (lc ln)) (xix (ixD hr.units) (xvf 7) xs)) (tor1 (tcmp (opNe hr.units) (xc h_rest (hr.mono (by decide)) (ac' (xix (ixD hr.units) (xvf 7) xs) an') (lc ln)) (xix (ixD hr.units) (xvf 7) xs))))) (b1 (sret xb)) bn)
    (bc (sif (PW.pt (tor (tcmp (opNe hr.units) (xc h_both (hr.mono (by decide)) (ac' (xix (ixD hr.units) (xvf 7) xs) (ac' (xix (ixD hr.units) (xvf 7) xs) an')) (lc (lc ln))) (xix (ixD hr.units) (xvf 7) xs)) (tor1 (tcmp (opNe hr.units) (xix (ixD hr.units) (xvf 7) xs) (xt (ac (xt (ac (xv 5) (ac (xv 5) an))) an)))))) (b1 (sret xb)) bn)
    (bc (sif (PW.pt (tor (tnot (tv (xc h_has (hr.mono (by decide)) (ac' (xix (ixD hr.units) (xvf 7) xs) (ac' (xv 5) an')) (lc (lc ln))))) (tor1 (tcmp (opNe hr.units) (xix (ixD hr.units) (xix (ixD hr.units) (xvf 7) xs) xi) (xt (ac (xv 5) (ac (xop opAdd (xsl (xv 5) on (os xi)) (xt (ac xi an))) an))))))) (b1 (sret xb)) bn)
    (bc (sif (PW.pt (tor (tnot (tv (xc h__law_hat_right (hr.mono (by decide)) (ac' (xv 5) (ac' (xix (ixD hr.units) (xvf 7) xs) an')) (lc (lc ln))))) (tor1 (PW.pt (tand (tcmp (opGt hr.units) (xix (ixD hr.units) (xv 5) xi) xi) (tand1 (tnot (tv (xc h_is_within (hr.mono (by decide)) (ac' (xix (ixD hr.units) (xvf 7) xs) (ac' (xix (ixD hr.units) (xvf 7) xs) an')) (lc (lc ln))))))))))) (b1 (sret xb)) bn)
    (bc (sset 10 sc_law.nd (xc h_both (hr.mono (by decide)) (ac' (xc h_read_range (hr.mono (by decide)) (ac' (xop opAdd xs (xv 6)) an') (lc ln)) (ac' (xc h_either (hr.mono (by decide)) (ac' (xv 3) (ac' (xg T.g_ANY) an')) (lc (lc ln))) an')) (lc (lc ln))))
    (b1 (sif (PW.pt (tor (tcmp (opNe hr.units) (xc h_count (hr.mono (by decide)) (ac' (xv 10) an') (lc ln)) (xc h__law_walked (hr.mono (by decide)) (ac' (xv 10) an') (lc ln))) (tor1 (tcmp (opNe hr.units) (xc h_count (hr.mono (by decide)) (ac' (xv 10) an') (lc ln)) (xop opSub xi (xix (ixD hr.units) (xv 5) xi)))))) (b1 (sret xb)) bn)))))))))))))))
    (b1 (sret xb)))
theorem fn_law (T : Txt K mg) {f : Addr} {fd : FuncData} (Fl : Fun K "law" "law" s_law f fd) : FnOk P K.w K.k mg base CX0 6 f fd ["script"] (spOf K F_law 1) := by
  have h_place_of : Ok P K mg base 1 "place_of" ["edition"] F_place_of := ok_place_of T 
  have h_edition_at : Ok P K mg base 1 "edition_at" ["place"] F_edition_at := ok_edition_at T 
  have h_follows : Ok P K mg base 2 "follows" ["edition"] F_follows := ok_follows T h_edition_at h_place_of
  have h_show_edition : Ok P K mg base 1 "show_edition" ["edition"] F_show_edition := ok_show_edition T 
  have h_number_in : Ok P K mg base 1 "number_in" ["word", "most"] F_number_in := ok_number_in T 
  have h_read_edition : Ok P K mg base 2 "read_edition" ["text"] F_read_edition := ok_read_edition T h_number_in
  have h_spans_of : Ok P K mg base 2 "spans_of" ["one"] F_spans_of := ok_spans_of T h_place_of
  have h_joined : Ok P K mg base 2 "joined" ["spans"] F_joined := ok_joined T h_edition_at
  have h_both : Ok P K mg base 3 "both" ["one", "other"] F_both := ok_both T h_joined h_spans_of
  have h_either : Ok P K mg base 3 "either" ["one", "other"] F_either := ok_either T h_joined h_spans_of
  have h_rest : Ok P K mg base 3 "rest" ["one"] F_rest := ok_rest T h_spans_of h_joined h_place_of
  have h_has : Ok P K mg base 1 "has" ["one", "edition"] F_has := ok_has T 
  have h_is_within : Ok P K mg base 4 "is_within" ["one", "other"] F_is_within := ok_is_within T h_both
  have h_count : Ok P K mg base 3 "count" ["one"] F_count := ok_count T h_spans_of
  have h_show_stretch : Ok P K mg base 2 "show_stretch" ["low", "high"] F_show_stretch := ok_show_stretch T h_show_edition
  have h_show_range : Ok P K mg base 3 "show_range" ["one"] F_show_range := ok_show_range T h_show_stretch
  have h_top_of : Ok P K mg base 1 "top_of" ["mark", "edition"] F_top_of := ok_top_of T 
  have h_bound_range : Ok P K mg base 3 "bound_range" ["word"] F_bound_range := ok_bound_range T h_read_edition h_place_of h_joined h_top_of
  have h_part_range : Ok P K mg base 4 "part_range" ["part"] F_part_range := ok_part_range T h_bound_range h_both
  have h_read_range : Ok P K mg base 5 "read_range" ["thing"] F_read_range := ok_read_range T h_part_range h_either
  have h__law_deck : Ok P K mg base 1 "_law_deck" ["cell", "turn"] F__law_deck := ok__law_deck T 
  have h__law_pick : Ok P K mg base 1 "_law_pick" ["deck", "many"] F__law_pick := ok__law_pick T 
  have h__law_edition : Ok P K mg base 2 "_law_edition" ["deck"] F__law_edition := ok__law_edition T h__law_pick
  have h__law_place : Ok P K mg base 1 "_law_place" ["edition"] F__law_place := ok__law_place T 
  have h__law_at : Ok P K mg base 1 "_law_at" ["place"] F__law_at := ok__law_at T 
  have h__law_joined : Ok P K mg base 2 "_law_joined" ["spans"] F__law_joined := ok__law_joined T h__law_at
  have h__law_span : Ok P K mg base 3 "_law_span" ["deck"] F__law_span := ok__law_span T h__law_pick h__law_joined h__law_place h__law_edition h__law_at
  have h__law_hat_right : Ok P K mg base 3 "_law_hat_right" ["edition", "hat"] F__law_hat_right := ok__law_hat_right T h_follows
  have h__law_walked : Ok P K mg base 3 "_law_walked" ["span"] F__law_walked := ok__law_walked T h_follows
  exact fn_ok (N := ["script", "cell", "deck", "one", "other", "edition", "word", "told", "sign", "more", "small"]) Fl sc_law fun cdv A outer s H E hr => (bc (sfor (ws := [1]) PassesOwn.never rfl (iseq (xop opAdd (pe_fz (xl (ac xi an))) (xsl (xv 0) on (os xi)))) (gn 1 sc_law.nd) (bc (sown 2 sc_law.nd (xcn h__law_deck (hr.mono (by decide)) (ac' (xv 1) (ac' xi an')) (lc (lc ln))))
    (bc (spar (ps_par rfl sc_law.nd rfl rfl (by decide) rfl rfl (ac (xc h__law_span (hr.mono (by decide)) (ar 2 an') (lr ln)) (ac (xc h__law_span (hr.mono (by decide)) (ar 2 an') (lr ln)) an)) (by rfl)))
    (bc (sif (tcmp (opNe hr.units) (xc h_read_range (hr.mono (by decide)) (ac' (xop opAdd (xop opAdd (xc h_show_range (hr.mono (by decide)) (ac' (xv 3) an') (lc ln)) xs) (xc h_show_range (hr.mono (by decide)) (ac' (xv 4) an') (lc ln))) an') (lc ln)) (xc h_either (hr.mono (by decide)) (ac' (xv 3) (ac' (xv 4) an')) (lc (lc ln)))) (b1 (sret xb)) bn)
    (bc (sset 5 sc_law.nd (xc h__law_edition (hr.mono (by decide)) (ar 2 an') (lr ln)))
    (bc (sset 6 sc_law.nd (xc h_show_edition (hr.mono (by decide)) (ac' (xv 5) an') (lc ln)))
    (bc (sown 7 sc_law.nd xdct)
    (bc (sfor (ws := [8]) PassesOwn.never rfl (iseq (pe_fz (xl (ac xs (ac xs (ac xs (ac xs (ac xs (ac xs (ac xs an)))))))))) (gn 8 sc_law.nd) (bc (ssetD 7 (ps_asg (xc h_read_range (hr.mono (by decide)) (ac' (xop opAdd (xv 8) (xv 6)) an') (lc ln)) (pg_sub (pv 7) (xv 8) (set_dict hr.units))))
    (bc (sset 9 sc_law.nd (xop opAdd (xix (ixD hr.units) (pe_fz (xl (ac xs (ac xs an)))) (xc h__law_pick (hr.mono (by decide)) (ar 2 (ac' xi an')) (lr (lc ln)))) (xc h_show_edition (hr.mono (by decide)) (ac' (xc h__law_edition (hr.mono (by decide)) (ar 2 an') (lr ln)) an') (lc ln))))
    (b1 (sif (tcmp (opNe hr.units) (xc h_read_range (hr.mono (by decide)) (ac' (xop opAdd (xop opAdd (xop opAdd (xv 8) (xv 6)) xs) (xv 9)) an') (lc ln)) (xc h_both (hr.mono (by decide)) (ac' (xoixD 7 (pe_ix (ixOD hr.units) (pv 7) (xv 8) (fun _ _ => rfl))) (ac' (xc h_read_range (hr.mono (by decide)) (ac' (xv 9) an') (lc ln)) an')) (lc (lc ln)))) (b1 (sret xb)) bn)))))
    (bc (sif (PW.pt (tor (tcmp (opNe hr.units) (xc h_rest (hr.mono (by decide)) (ac' (xix (ixD hr.units) (xvf 7) xs) an') (lc ln)) (xix (ixD hr.units) (xvf 7) xs)) (tor1 (tcmp (opNe hr.units) (xc h_rest (hr.mono (by decide)) (ac' (xix (ixD hr.units) (xvf 7) xs) an') (lc ln)) (xix (ixD hr.units) (xvf 7) xs))))) (b1 (sret xb)) bn)
    (bc (sif (PW.pt (tor (tcmp (opNe hr.units) (xc h_both (hr.mono (by decide)) (ac' (xix (ixD hr.units) (xvf 7) xs) (ac' (xix (ixD hr.units) (xvf 7) xs) an')) (lc (lc ln))) (xix (ixD hr.units) (xvf 7) xs)) (tor1 (tcmp (opNe hr.units) (xix (ixD hr.units) (xvf 7) xs) (xt (ac (xt (ac (xv 5) (ac (xv 5) an))) an)))))) (b1 (sret xb)) bn)
    (bc (sif (PW.pt (tor (tnot (tv (xc h_has (hr.mono (by decide)) (ac' (xix (ixD hr.units) (xvf 7) xs) (ac' (xv 5) an')) (lc (lc ln))))) (tor1 (tcmp (opNe hr.units) (xix (ixD hr.units) (xix (ixD hr.units) (xvf 7) xs) xi) (xt (ac (xv 5) (ac (xop opAdd (xsl (xv 5) on (os xi)) (xt (ac xi an))) an))))))) (b1 (sret xb)) bn)
    (bc (sif (PW.pt (tor (tnot (tv (xc h__law_hat_right (hr.mono (by decide)) (ac' (xv 5) (ac' (xix (ixD hr.units) (xvf 7) xs) an')) (lc (lc ln))))) (tor1 (PW.pt (tand (tcmp (opGt hr.units) (xix (ixD hr.units) (xv 5) xi) xi) (tand1 (tnot (tv (xc h_is_within (hr.mono (by decide)) (ac' (xix (ixD hr.units) (xvf 7) xs) (ac' (xix (ixD hr.units) (xvf 7) xs) an')) (lc (lc ln))))))))))) (b1 (sret xb)) bn)
    (bc (sset 10 sc_law.nd (xc h_both (hr.mono (by decide)) (ac' (xc h_read_range (hr.mono (by decide)) (ac' (xop opAdd xs (xv 6)) an') (lc ln)) (ac' (xc h_either (hr.mono (by decide)) (ac' (xv 3) (ac' (xg T.g_ANY) an')) (lc (lc ln))) an')) (lc (lc ln))))
    (b1 (sif (PW.pt (tor (tcmp (opNe hr.units) (xc h_count (hr.mono (by decide)) (ac' (xv 10) an') (lc ln)) (xc h__law_walked (hr.mono (by decide)) (ac' (xv 10) an') (lc ln))) (tor1 (tcmp (opNe hr.units) (xc h_count (hr.mono (by decide)) (ac' (xv 10) an') (lc ln)) (xop opSub xi (xix (ixD hr.units) (xv 5) xi)))))) (b1 (sret xb)) bn)))))))))))))))
    (b1 (sret xb)))
end
end G

set_option maxHeartbeats 1000000
/-! what the law itself draws as editions and ranges -/
namespace G
open PySem Dt Dm Dk Rn
open L2 (atI ixN)
open PySem.W (Datum DatumOrd Tup T3 T4)
abbrev Ed := T3 Int Int Int
theorem ed_D (a b c : Int) : Datum.toD (T3.mk a b c) = (.tuple [.int a, .int b, .int c] : D) := rfl
def at_ (p : Int) : Ed := ⟨p / 10000, p / 100 % 100, p % 100⟩
theorem sp_D (p : Pr) : Datum.toD p = (.tuple [.int p.1, .int p.2] : D) := rfl
theorem ep_D (p : Ed × Ed) : Datum.toD p = (.tuple [Datum.toD p.1, Datum.toD p.2] : D) := rfl
def rt (ps : List Pr) : Tup (Ed × Ed) := ⟨ps.map fun p => (at_ p.1, at_ p.2)⟩
def ra (ps : List Pr) : D := Datum.toD (rt ps)
theorem ra_eq (ps : List Pr) : ra ps = .tuple (ps.map fun p => .tuple [Datum.toD (at_ p.1), Datum.toD (at_ p.2)]) := by
  show PyData.tuple ((ps.map _).map _) = _
  rw [List.map_map]; rfl
theorem nil_D : Datum.toD ([] : List Pr) = (.list [] : D) := rfl
def RJ (S : D) (acc rest : List Pr) (ss : SS) : Prop := (∃ x y, ss = [.imm S, .own (.lst (acc.reverse.map Datum.toD)), x, y]) ∧ acc.length + rest.length ≤ 10000
theorem law_at_eq (p : Int) : ev1 F__law_at (.int p) = some (Datum.toD (at_ p)) := by
  unfold F__law_at
  rw [q_ev1]
  unfold B__law_at at_
  rw [ed_D]
  simp
structure Rg (n : Nat) (ps : List Pr) : Prop where
  can : Can 0 999999 ps
  len : ps.length ≤ n
theorem can_all {lo hi : Int} : ∀ {ps : List Pr}, Can lo hi ps → 0 ≤ lo → ∀ p ∈ ps, 0 ≤ p.1 ∧ p.1 ≤ p.2 ∧ p.2 ≤ hi
  | p :: r, h, h0, q, hq => by
    rcases List.mem_cons.mp hq with rfl | hq
    · exact ⟨Int.le_trans h0 h.1, h.2.1, h.2.2.1⟩
    · refine can_all h.2.2.2 ?_ q hq
      have := h.1; have := h.2.1; omega
  | [], h, _, q, hq => nomatch hq
theorem srt_first (ps : List Pr) : (srt ps).Pairwise fun a b => a.1 ≤ b.1 := (srt_pair ps).imp fun {a b} h => by
  have h : (if b.1 = a.1 then decide (b.2 < a.2) else decide (b.1 < a.1)) = false := h
  split at h
  · omega
  · have := of_decide_eq_false h; omega
theorem join_srt {n : Nat} {ps : List Pr} (hb : ∀ p ∈ ps, 0 ≤ p.1 ∧ p.1 ≤ p.2 ∧ p.2 ≤ 999999) (hn : ps.length ≤ n) : Rg n (join (srt ps)) ∧ ∀ x, Mem (join (srt ps)) x ↔ Mem ps x := by
  obtain ⟨h1, h2, h3⟩ := join_ok (lo := 0) (hi := 999999) (srt_first ps) fun p hp => hb p ((srt_perm ps).mem_iff.mp hp)
  refine ⟨⟨h1, by rw [(srt_perm ps).length_eq] at h3; omega⟩, fun x => ?_⟩
  rw [h2, mem_perm (srt_perm ps)]
theorem law_joined_eq (ps : List Pr) (hl : ps.length ≤ 10000) (hp : ∀ p ∈ ps, p.1 ≤ p.2) : ev1 F__law_joined (Datum.toD ps) = some (ra (join (srt ps))) := by
  unfold F__law_joined
  rw [q_ev1]
  unfold B__law_joined
  have hs : gSorted [Datum.toD ps] = some (.lst ((srt ps).map Datum.toD)) := srt_dat ps (pair_kind ps)
  have hq : (srt ps).length = ps.length := (srt_perm ps).length_eq
  obtain ⟨s2, h1, ⟨⟨x, y, rfl⟩, h2⟩, _⟩ := loop_rest (g := gTup 2 (gCons (gN 2) (gCons (gN 3) gNil)))
    (b := sIf (bAnd (bOf (ePkL dNe 1 (eFz (nLst lNil)))) (bOf (eOp dLe (eV 2) (eOp dAdd (eOp dIx (eOix 1 (eUn dNeg (eC (.int 1)))) (eC (.int 1))) (eC (.int 1)))))) (sSetL 1 (eUn dNeg (eC (.int 1))) (eTup (lCons (eOp dIx (eOix 1 (eUn dNeg (eC (.int 1)))) (eC (.int 0))) (lCons (eCB gMax (lCons (eV 3) (lCons (eOp dIx (eOix 1 (eUn dNeg (eC (.int 1)))) (eC (.int 1))) lNil))) lNil)))) (sApp 1 (eTup (lCons (eV 2) (lCons (eV 3) lNil)))))
    (fun p : Pr => (Datum.toD p : D)) jstep (fun acc rest ss => RJ (Datum.toD ps) acc rest ss ∧ ∀ p ∈ rest, p.1 ≤ p.2) (fun acc p r ss hR => by
      obtain ⟨⟨⟨x, y, rfl⟩, hb⟩, hpp⟩ := hR
      have hp := hpp p List.mem_cons_self
      rw [List.length_cons] at hb
      refine ⟨[.imm (Datum.toD ps), .own (.lst (acc.reverse.map Datum.toD)), .imm (.int p.1), .imm (.int p.2)], ?_⟩
      cases acc with
      | nil =>
        have hn : dNe (.list []) (.list []) = some (.bool false) := ne_dat ([] : List Pr) []
        refine ⟨_, by simp [sp_D], ?_, ⟨⟨.imm (.int p.1), .imm (.int p.2), rfl⟩, ?_⟩, fun q hq => hpp q (List.mem_cons_of_mem _ hq)⟩
        · simp [hn, hp, jstep, sp_D]
        · simp [jstep, hp]
          simp at hb
          omega
      | cons q t =>
        have hn : dNe (.list ((t.reverse ++ [q]).map Datum.toD)) (.list []) = some (.bool true) := (ne_dat (t.reverse ++ [q]) []).trans (by simp)
        rw [List.length_cons] at hb
        have hix : ixN (t.length + 1) (-1) = some t.length := by
          have := q_ixL q t.reverse
          simpa using this
        by_cases hj : p.1 ≤ q.2 + 1
        · refine ⟨_, by simp [sp_D], ?_, ⟨⟨.imm (.int p.1), .imm (.int p.2), rfl⟩, ?_⟩, fun q hq => hpp q (List.mem_cons_of_mem _ hq)⟩
          · simp [sp_D] at hn
            have hm : (if p.2 < q.2 then q.2 else p.2) = if q.2 < p.2 then p.2 else q.2 := by
              repeat' split
              all_goals omega
            simp [hn, hj, jstep, sp_D, hix, hm]
          · simp [jstep, hj]
            omega
        · refine ⟨_, by simp [sp_D], ?_, ⟨⟨.imm (.int p.1), .imm (.int p.2), rfl⟩, ?_⟩, fun q hq => hpp q (List.mem_cons_of_mem _ hq)⟩
          · simp [sp_D] at hn
            simp [hn, hj, hp, jstep, sp_D]
            omega
          · simp [jstep, hj, hp]
            omega) (srt ps) [] [.imm (Datum.toD ps), .own (.lst []), .un, .un] ⟨⟨⟨.un, .un, rfl⟩, by simp [hq]; exact hl⟩, fun p h => hp p ((srt_perm ps).mem_iff.mp h)⟩
  have hc := comp_map (vs := [2, 3]) (g := gTup 2 (gCons (gN 2) (gCons (gN 3) gNil))) (t := bYes) (e := eTup (lCons (eCall F__law_at (aCons (eV 2) aNil)) (lCons (eCall F__law_at (aCons (eV 3) aNil)) lNil)))
    (ss := [.imm (Datum.toD ps), .imm (.list ((join (srt ps)).map Datum.toD)), .un, .un]) (fun p : Pr => (Datum.toD p : D)) (fun _ => true) (fun p => (.tuple [Datum.toD (at_ p.1), Datum.toD (at_ p.2)] : D)) (join (srt ps)) fun p hp => by
      unfold turnF
      simp [lend, lendS, unlend, unlendS, wipeS, law_at_eq, sp_D]
  have hf : (join (srt ps)).filter (fun _ => true) = join (srt ps) := List.filter_eq_self.mpr fun _ _ => rfl
  rw [hf] at hc
  have hlen : (join (srt ps)).length ≤ 10000 := by
    unfold join
    rw [List.length_reverse]
    simpa using h2
  have hj : List.map Datum.toD (List.foldl jstep [] (srt ps)).reverse = (join (srt ps)).map Datum.toD := rfl
  simp only [List.replicate] 
  simp [hs, h1, wipeS, backS, backF, keepS]
  rw [← List.map_reverse, hj, hc]
  simp
  rw [if_pos (by omega)]
  simp [backS, backF, keepS]
  rw [ra_eq]
theorem pick_is : F__law_pick = F_pick := rfl
theorem deck_is : F__law_deck = F_deck := rfl
theorem ix4 (r k : Int) (h0 : 0 ≤ r) (h1 : r < 100) (k0 : 0 ≤ k) (k1 : k < 4) : ∃ v : Int, 0 ≤ v ∧ v ≤ 99 ∧ atI [(.int 0 : D), .int 1, .int 99, .int r] k = some (.int v) := by
  have : k = 0 ∨ k = 1 ∨ k = 2 ∨ k = 3 := by omega
  rcases this with rfl | rfl | rfl | rfl
  · exact ⟨0, by decide, by decide, rfl⟩
  · exact ⟨1, by decide, by decide, rfl⟩
  · exact ⟨99, by decide, by decide, rfl⟩
  · exact ⟨r, h0, by omega, rfl⟩
theorem edition_ok {n : Nat} {o : O} (h : Deck n o) (hn : n ≤ 90000) : ∃ (x y z : Int) (u : O), rv1 F__law_edition o = some (Datum.toD (T3.mk x y z), u) ∧ (0 ≤ x ∧ x ≤ 99) ∧ (0 ≤ y ∧ y ≤ 99) ∧ (0 ≤ z ∧ z ≤ 99) ∧ Deck (n + 5) u := by
  obtain ⟨w, u1, e1, w0, w1, d1⟩ := pick_spec (m := 5) h (by omega) (by decide) (by decide)
  unfold F__law_edition
  rw [q_rv1]
  unfold B__law_edition

  by_cases hw : w < 4
  · obtain ⟨x, u2, e2, x0, x1, d2⟩ := pick_spec (m := 3) d1 (by omega) (by decide) (by decide)
    obtain ⟨y, u3, e3, y0, y1, d3⟩ := pick_spec (m := 2) d2 (by omega) (by decide) (by decide)
    refine ⟨x, y, 0, u3, ?_, by omega, by omega, by omega, d3.mono (by omega)⟩
    simp [q_r2, pick_is, e1, e2, e3, hw, ed_D]
  · obtain ⟨r, u2, e2, r0, r1, d2⟩ := pick_spec (m := 100) d1 (by omega) (by decide) (by decide)
    obtain ⟨i, u3, e3, i0, i1, d3⟩ := pick_spec (m := 4) d2 (by omega) (by decide) (by decide)
    obtain ⟨j, u4, e4, j0, j1, d4⟩ := pick_spec (m := 4) d3 (by omega) (by decide) (by decide)
    obtain ⟨k, u5, e5, k0, k1, d5⟩ := pick_spec (m := 4) d4 (by omega) (by decide) (by decide)
    obtain ⟨x, x0, x1, ex⟩ := ix4 r i r0 r1 i0 i1
    obtain ⟨y, y0, y1, ey⟩ := ix4 r j r0 r1 j0 j1
    obtain ⟨z, z0, z1, ez⟩ := ix4 r k r0 r1 k0 k1
    refine ⟨x, y, z, u5, ?_, ⟨x0, x1⟩, ⟨y0, y1⟩, ⟨z0, z1⟩, d5.mono (by omega)⟩
    simp [q_r2, pick_is, e1, e2, e3, e4, e5, hw, ed_D, ex, ey, ez]
theorem law_place_eq {x y z : Int} (hx : 0 ≤ x ∧ x ≤ 99) (hy : 0 ≤ y ∧ y ≤ 99) (hz : 0 ≤ z ∧ z ≤ 99) : ev1 F__law_place (Datum.toD (T3.mk x y z)) = some (.int (x * 10000 + y * 100 + z)) := by
  obtain ⟨a0, a1⟩ := hx
  obtain ⟨b0, b1⟩ := hy
  unfold F__law_place
  rw [q_ev1]
  unfold B__law_place
  rw [ed_D]
  have l1 : dMul (.int x) (.int 10000) = some (.int (x * 10000)) := mul_int (by omega) (by decide)
  have l2 : dMul (.int y) (.int 100) = some (.int (y * 100)) := mul_int (by omega) (by decide)
  simp [-q_mul, l1, l2]
theorem place_ok {n : Nat} {o : O} (h : Deck n o) (hn : n ≤ 90000) : ∃ (d : D) (p : Int) (u : O), rv1 F__law_edition o = some (d, u) ∧ ev1 F__law_place d = some (.int p) ∧ 0 ≤ p ∧ p ≤ 999999 ∧ Deck (n + 5) u := by
  obtain ⟨x, y, z, u, e, hx, hy, hz, d⟩ := edition_ok h hn
  exact ⟨_, _, u, e, law_place_eq hx hy hz, by omega, by omega, d⟩
theorem srt2 (p q : Int) : ∃ a b : Int, gSorted [.list [.int p, .int q]] = some (.lst [.int a, .int b]) ∧ a ≤ b ∧ (a = p ∧ b = q ∨ a = q ∧ b = p) := by
  have h := srt_dat [p, q] (int_kind _)
  have hp := srt_perm [p, q]
  have hw := srt_pair [p, q]
  have hl := hp.length_eq
  match e : srt [p, q], hl with
  | [a, b], _ =>
    rw [e] at h hp hw
    refine ⟨a, b, h, ?_, ?_⟩
    · have := (List.pairwise_cons.mp hw).1 b List.mem_cons_self
      have := of_decide_eq_false (show decide (b < a) = false from this)
      omega
    · have ha := hp.mem_iff.mp (List.mem_cons_self (a := a) (l := [b]))
      rcases List.mem_cons.mp ha with rfl | ha
      · have := hp.cons_inv
        exact .inl ⟨rfl, by simpa using this⟩
      · have ha := List.mem_singleton.mp ha
        subst ha
        have := (hp.trans (List.Perm.swap _ _ _)).cons_inv
        exact .inr ⟨rfl, by simpa using this⟩
theorem ra1 (a b : Int) : ra [(a, b)] = .tuple [.tuple [Datum.toD (at_ a), Datum.toD (at_ b)]] := rfl
theorem at0 : (Datum.toD (at_ 0) : D) = .tuple [.int 0, .int 0, .int 0] := rfl
theorem at9 : (Datum.toD (at_ 999999) : D) = .tuple [.int 99, .int 99, .int 99] := rfl
theorem rg1 {a b : Int} (h0 : 0 ≤ a) (h1 : a ≤ b) (h2 : b ≤ 999999) : Rg 3 [(a, b)] := ⟨⟨h0, h1, h2, trivial⟩, by simp⟩
theorem law_span_ok {n : Nat} {o : O} (h : Deck n o) (hn : n ≤ 80000) : ∃ (ps : List Pr) (u : O), rv1 F__law_span o = some (ra ps, u) ∧ Rg 3 ps ∧ Deck (n + 20) u := by
  obtain ⟨w, u1, e1, w0, w1, d1⟩ := pick_spec (m := 9) h (by omega) (by decide) (by decide)
  obtain ⟨p1, x, u2, e2, q2, x0, x1, d2⟩ := place_ok d1 (by omega)
  obtain ⟨p2, y, u3, e3, q3, y0, y1, d3⟩ := place_ok d2 (by omega)
  obtain ⟨a, b, es, hab, hh⟩ := srt2 x y
  have ha0 : 0 ≤ a := by omega
  have hb9 : b ≤ 999999 := by omega
  unfold F__law_span
  rw [q_rv1]
  unfold B__law_span

  by_cases h3 : w < 3
  · refine ⟨[(0, 999999)], u3, ?_, rg1 (by decide) (by decide) (by decide), d3.mono (by omega)⟩
    simp [q_r2, pick_is, e1, e2, e3, q2, q3, es, h3, ra1, at0, at9]
  by_cases h4 : w = 3
  · refine ⟨[(a, 999999)], u3, ?_, rg1 ha0 (by omega) (by decide), d3.mono (by omega)⟩
    simp [q_r2, pick_is, e1, e2, e3, q2, q3, es, h4, ra1, at0, at9, law_at_eq]
  by_cases h5 : w = 4
  · refine ⟨[(0, b)], u3, ?_, rg1 (by decide) (by omega) hb9, d3.mono (by omega)⟩
    simp [q_r2, pick_is, e1, e2, e3, q2, q3, es, h5, ra1, at0, at9, law_at_eq]
  by_cases h7 : w < 7
  · refine ⟨[(a, b)], u3, ?_, rg1 ha0 hab hb9, d3.mono (by omega)⟩
    simp [q_r2, pick_is, e1, e2, e3, q2, q3, es, h3, h4, h5, h7, ra1, law_at_eq]
  by_cases h8 : w = 7
  · obtain ⟨p3, z, u4, e4, q4, z0, z1, d4⟩ := place_ok d3 (by omega)
    obtain ⟨r, u5, e5, r0, r1, d5⟩ := pick_spec (m := 300) d4 (by omega) (by decide) (by decide)
    generalize hm : (if z + r < 999999 then z + r else 999999) = m
    have m0 : z ≤ m := by rw [← hm]; split <;> omega
    have m1 : m ≤ 999999 := by rw [← hm]; split <;> omega
    have hj := law_joined_eq [(a, a), (b, b), (z, m)] (by simp) (by simp; omega)
    have e0 : (Datum.toD [((a, a) : Pr), (b, b), (z, m)] : D) = .list [.tuple [.int a, .int a], .tuple [.int b, .int b], .tuple [.int z, .int m]] := rfl
    rw [e0] at hj
    obtain ⟨j1, _⟩ := join_srt (n := 3) (ps := [(a, a), (b, b), (z, m)]) (by simp; omega) (by simp)
    refine ⟨_, u5, ?_, j1, d5.mono (by omega)⟩
    simp [q_r2, pick_is, e1, e2, e3, q2, q3, es, h8, e4, q4, e5, hm, hj]
  · obtain ⟨r, u4, e4, r0, r1, d4⟩ := pick_spec (m := 2) d3 (by omega) (by decide) (by decide)
    have : r = 0 ∨ r = 1 := by omega
    rcases this with rfl | rfl
    · have hj := law_joined_eq [] (by decide) (fun p hp => nomatch hp)
      have e0 : (Datum.toD ([] : List Pr) : D) = .list [] := rfl
      rw [e0] at hj
      have em : dMul (.list [.tuple [.int a, .int b]]) (.int 0) = some (.list []) := rfl
      obtain ⟨j1, _⟩ := join_srt (n := 3) (ps := []) (fun p hp => nomatch hp) (by decide)
      refine ⟨_, u4, ?_, j1, d4.mono (by omega)⟩
      simp [q_r2, pick_is, e1, e2, e3, q2, q3, es, h3, h4, h5, h7, h8, e4, em, hj]
    · have hj := law_joined_eq [(a, b)] (by simp) (by simp; omega)
      have e0 : (Datum.toD [((a, b) : Pr)] : D) = .list [.tuple [.int a, .int b]] := rfl
      rw [e0] at hj
      have em : dMul (.list [.tuple [.int a, .int b]]) (.int 1) = some (.list [.tuple [.int a, .int b]]) := rfl
      obtain ⟨j1, _⟩ := join_srt (n := 3) (ps := [(a, b)]) (by simp; omega) (by simp)
      refine ⟨_, u4, ?_, j1, d4.mono (by omega)⟩
      simp [q_r2, pick_is, e1, e2, e3, q2, q3, es, h3, h4, h5, h7, h8, e4, em, hj]
theorem ne_same (c : List Pr) : dNe (ra c) (ra c) = some (.bool false) := (ne_dat (rt c) (rt c)).trans (by simp)
theorem q_par3 (i j k : Nat) (x y z : D) (f : FL) (ss s1 : SS) (h : f ss = .ok [x, y, z] s1) (hl : ([i, j, k].all fun i => decide (i < s1.length)) = true) : sPar [i, j, k] f ss = .nx (((s1.set i (.imm x)).set j (.imm y)).set k (.imm z)) := by
  unfold sPar
  rw [h]
  simp only
  rw [if_pos ⟨rfl, hl⟩]
  rfl
theorem ne_bool (a b : Bool) : dNe (.bool a) (.bool b) = some (.bool (!decide (a = b))) := ne_dat a b
theorem eq_ra (c d : List Pr) : dEq (ra c) (ra d) = some (.bool (decide (rt c = rt d))) := eq_dat (rt c) (rt d)
end G

set_option maxHeartbeats 1000000
namespace G
open PySem Dt Dm Dk Rn
open L2 (atI ixN)
open PySem.W (Datum DatumOrd Tup T3 T4)
theorem at_inj {p q : Int} (h : at_ p = at_ q) : p = q := by
  have h1 := congrArg T3.a h
  have h2 := congrArg T3.b h
  have h3 := congrArg T3.c h
  simp only [at_] at h1 h2 h3
  omega
theorem rt_inj {ps qs : List Pr} (h : rt ps = rt qs) : ps = qs := by
  have := congrArg Tup.items h
  exact (List.map_inj_right (f := fun p : Pr => (at_ p.1, at_ p.2)) fun a b e => Prod.ext (at_inj (congrArg Prod.fst e)) (at_inj (congrArg Prod.snd e))).mp this
theorem place_of_at (p : Int) (h1 : -1000000000 ≤ p) (h2 : p ≤ 1000000000) : ev1 F_place_of (Datum.toD (at_ p)) = some (.int p) := by
  unfold F_place_of
  rw [q_ev1]
  unfold B_place_of at_
  rw [ed_D]
  have a1 : (p / 10000).natAbs < 18446744073709551616 := by omega
  have a2 : (p / 100 % 100).natAbs < 18446744073709551616 := by omega
  have l1 : dMul (.int (p / 10000)) (.int 10000) = some (.int (p / 10000 * 10000)) := mul_int a1 (by decide)
  have l2 : dMul (.int (p / 100 % 100)) (.int 100) = some (.int (p / 100 % 100 * 100)) := mul_int a2 (by decide)
  simp [-q_mul, l1, l2]
  omega
theorem edition_at_eq (p : Int) : ev1 F_edition_at (.int p) = some (Datum.toD (at_ p)) := by
  unfold F_edition_at
  rw [q_ev1]
  unfold B_edition_at at_
  rw [ed_D]
  simp
def PBd (ps : List Pr) : Prop := ∀ p ∈ ps, -1000000000 ≤ p.1 ∧ p.1 ≤ 1000000000 ∧ -1000000000 ≤ p.2 ∧ p.2 ≤ 1000000000
theorem spans_of_ra (ps : List Pr) (hb : PBd ps) (hl : ps.length ≤ 10000) : ev1 F_spans_of (ra ps) = some (Datum.toD ps) := by
  unfold F_spans_of
  rw [q_ev1, ra_eq]
  unfold B_spans_of
  have hc := comp_map (vs := [1, 2]) (g := gTup 2 (Dt.gCons (Dt.gN 1) (Dt.gCons (Dt.gN 2) Dt.gNil))) (t := bYes) (e := eTup (lCons (eCall F_place_of (aCons (eV 1) aNil)) (lCons (eCall F_place_of (aCons (eV 2) aNil)) lNil)))
    (ss := [.imm (.tuple (ps.map fun p => .tuple [Datum.toD (at_ p.1), Datum.toD (at_ p.2)])), .un, .un]) (fun p : Pr => (.tuple [Datum.toD (at_ p.1), Datum.toD (at_ p.2)] : D)) (fun _ => true) (fun p => Datum.toD p) ps fun p hp => by
      obtain ⟨b1, b2, b3, b4⟩ := hb p hp
      unfold turnF
      simp [lend, lendS, unlend, unlendS, wipeS, place_of_at _ b1 b2, place_of_at _ b3 b4, sp_D]
  have hf : ps.filter (fun _ => true) = ps := List.filter_eq_self.mpr fun _ _ => rfl
  rw [hf] at hc
  simp [wipeS, hc, backS, backF, keepS]
  rw [if_pos (by omega)]
  simp
  rfl
theorem Rg.bd {n : Nat} {ps : List Pr} (h : Rg n ps) : PBd ps := fun p hp => by
  have := can_all h.can (Int.le_refl _) p hp
  omega
theorem joined_eq (ps : List Pr) (hl : ps.length ≤ 10000) : ev1 F_joined (Datum.toD ps) = some (ra (join (srt ps))) := by
  unfold F_joined
  rw [q_ev1]
  unfold B_joined
  have hs : gSorted [Datum.toD ps] = some (.lst ((srt ps).map Datum.toD)) := srt_dat ps (pair_kind ps)
  have hq : (srt ps).length = ps.length := (srt_perm ps).length_eq
  obtain ⟨s2, h1, ⟨x, y, rfl⟩, h2⟩ := loop_rest (g := gTup 2 (gCons (gN 2) (gCons (gN 3) gNil)))
    (b := sIf (bAnd (bOf (ePkL dNe 1 (eFz (nLst lNil)))) (bOf (eOp dLe (eV 2) (eOp dAdd (eOp dIx (eOix 1 (eUn dNeg (eC (.int 1)))) (eC (.int 1))) (eC (.int 1)))))) (sSetL 1 (eUn dNeg (eC (.int 1))) (eTup (lCons (eOp dIx (eOix 1 (eUn dNeg (eC (.int 1)))) (eC (.int 0))) (lCons (eCB gMax (lCons (eOp dIx (eOix 1 (eUn dNeg (eC (.int 1)))) (eC (.int 1))) (lCons (eV 3) lNil))) lNil)))) (sIf (bOf (eOp dLe (eV 2) (eV 3))) (sApp 1 (eTup (lCons (eV 2) (lCons (eV 3) lNil)))) sNil))
    (fun p : Pr => (Datum.toD p : D)) jstep (RJ (Datum.toD ps)) (fun acc p r ss hR => by
      obtain ⟨⟨x, y, rfl⟩, hb⟩ := hR
      rw [List.length_cons] at hb
      refine ⟨[.imm (Datum.toD ps), .own (.lst (acc.reverse.map Datum.toD)), .imm (.int p.1), .imm (.int p.2)], ?_⟩
      cases acc with
      | nil =>
        have hn : dNe (.list []) (.list []) = some (.bool false) := ne_dat ([] : List Pr) []
        by_cases hp : p.1 ≤ p.2
        · refine ⟨_, by simp [sp_D], ?_, ⟨⟨.imm (.int p.1), .imm (.int p.2), rfl⟩, ?_⟩⟩
          · simp [hn, hp, jstep, sp_D]
          · simp [jstep, hp]
            simp at hb
            omega
        · refine ⟨_, by simp [sp_D], ?_, ⟨⟨.imm (.int p.1), .imm (.int p.2), rfl⟩, ?_⟩⟩
          · simp [hn, hp, jstep, sp_D]
          · simp [jstep, hp]
            simp at hb
            omega
      | cons q t =>
        have hn : dNe (.list ((t.reverse ++ [q]).map Datum.toD)) (.list []) = some (.bool true) := (ne_dat (t.reverse ++ [q]) []).trans (by simp)
        rw [List.length_cons] at hb
        have hix : ixN (t.length + 1) (-1) = some t.length := by
          have := q_ixL q t.reverse
          simpa using this
        by_cases hj : p.1 ≤ q.2 + 1
        · refine ⟨_, by simp [sp_D], ?_, ⟨⟨.imm (.int p.1), .imm (.int p.2), rfl⟩, ?_⟩⟩
          · simp [sp_D] at hn
            simp [hn, hj, jstep, sp_D, hix]
          · simp [jstep, hj]
            omega
        · by_cases hp : p.1 ≤ p.2
          · refine ⟨_, by simp [sp_D], ?_, ⟨⟨.imm (.int p.1), .imm (.int p.2), rfl⟩, ?_⟩⟩
            · simp [sp_D] at hn
              simp [hn, hj, hp, jstep, sp_D]
              omega
            · simp [jstep, hj, hp]
              omega
          · refine ⟨_, by simp [sp_D], ?_, ⟨⟨.imm (.int p.1), .imm (.int p.2), rfl⟩, ?_⟩⟩
            · simp [sp_D] at hn
              simp [hn, hj, hp, jstep, sp_D]
            · simp [jstep, hj, hp]
              omega) (srt ps) [] [.imm (Datum.toD ps), .own (.lst []), .un, .un] ⟨⟨.un, .un, rfl⟩, by simp [hq]; exact hl⟩
  have hc := comp_map (vs := [2, 3]) (g := gTup 2 (gCons (gN 2) (gCons (gN 3) gNil))) (t := bYes) (e := eTup (lCons (eCall F_edition_at (aCons (eV 2) aNil)) (lCons (eCall F_edition_at (aCons (eV 3) aNil)) lNil)))
    (ss := [.imm (Datum.toD ps), .imm (.list ((join (srt ps)).map Datum.toD)), .un, .un]) (fun p : Pr => (Datum.toD p : D)) (fun _ => true) (fun p => (.tuple [Datum.toD (at_ p.1), Datum.toD (at_ p.2)] : D)) (join (srt ps)) fun p hp => by
      unfold turnF
      simp [lend, lendS, unlend, unlendS, wipeS, edition_at_eq, sp_D]
  have hf : (join (srt ps)).filter (fun _ => true) = join (srt ps) := List.filter_eq_self.mpr fun _ _ => rfl
  rw [hf] at hc
  have hlen : (join (srt ps)).length ≤ 10000 := by
    unfold join
    rw [List.length_reverse]
    simpa using h2
  have hj : List.map Datum.toD (List.foldl jstep [] (srt ps)).reverse = (join (srt ps)).map Datum.toD := rfl
  simp only [List.replicate] 
  simp [hs, h1, wipeS, backS, backF, keepS]
  rw [← List.map_reverse, hj, hc]
  simp
  rw [if_pos (by omega)]
  simp [backS, backF, keepS]
  rw [ra_eq]
end G

set_option maxHeartbeats 1000000
namespace G
open PySem Dt Dm Dk Rn
open L2 (atI ixN)
open PySem.W (Datum DatumOrd Tup T3 T4)
def mx (i j : Int) : Int := if j > i then j else i
def mn (i j : Int) : Int := if j < i then j else i
def prods (ps qs : List Pr) : List Pr := ps.flatMap fun p => qs.map fun q => (mx p.1 q.1, mn p.2 q.2)
theorem prods_len (ps qs : List Pr) : (prods ps qs).length = ps.length * qs.length := by
  unfold prods
  induction ps with
  | nil => simp
  | cons p r ih => rw [List.flatMap_cons, List.length_append, ih, List.length_map, List.length_cons, Nat.succ_mul, Nat.add_comm]
def nep (ps : List Pr) : List Pr := ps.filter fun p => decide (p.1 ≤ p.2)
theorem nep_len (ps : List Pr) : (nep ps).length ≤ ps.length := List.length_filter_le _ _
theorem both_eq (a b : List Pr) (ha : Rg 100 a) (hb : Rg 100 b) : ev2 F_both (ra a) (ra b) = some (ra (join (srt (nep (prods a b))))) := by
  unfold F_both
  rw [q_ev2]
  unfold B_both
  have l1 := ha.len
  have l2 := hb.len
  have s1 := spans_of_ra a ha.bd (by omega)
  have s2 := spans_of_ra b hb.bd (by omega)
  have lp : (prods a b).length ≤ 10000 := by
    rw [prods_len]
    exact Nat.le_trans (Nat.mul_le_mul l1 l2) (by decide)
  have ln := nep_len (prods a b)
  have h2 := comp2_map (β := Pr) (vs := [3, 4]) (vs1 := [4]) (g := gN 3) (t := bYes) (src := lSeq (eCall F_spans_of (aCons (eV 1) aNil))) (g1 := gN 4) (t1 := bYes) (e := eTup (lCons (eCB gMax (lCons (eOp dIx (eV 3) (eC (.int 0))) (lCons (eOp dIx (eV 4) (eC (.int 0))) lNil))) (lCons (eCB gMin (lCons (eOp dIx (eV 3) (eC (.int 1))) (lCons (eOp dIx (eV 4) (eC (.int 1))) lNil))) lNil)))
    (ss := [.imm (ra a), .imm (ra b), .un, .un, .un, .un]) (fun p : Pr => (Datum.toD p : D)) (fun p => b.map fun q => (Datum.toD ((mx p.1 q.1, mn p.2 q.2) : Pr) : D)) a fun p hp => by
      have h1 := comp_map (vs := [4]) (g := gN 4) (t := bYes) (e := eTup (lCons (eCB gMax (lCons (eOp dIx (eV 3) (eC (.int 0))) (lCons (eOp dIx (eV 4) (eC (.int 0))) lNil))) (lCons (eCB gMin (lCons (eOp dIx (eV 3) (eC (.int 1))) (lCons (eOp dIx (eV 4) (eC (.int 1))) lNil))) lNil)))
        (ss := [.imm (ra a), .imm (ra b), .un, .imm (Datum.toD p), .un, .un]) (fun p : Pr => (Datum.toD p : D)) (fun _ => true) (fun q => (Datum.toD ((mx p.1 q.1, mn p.2 q.2) : Pr) : D)) b fun q hq => by
          unfold turnF
          simp [lend, lendS, unlend, unlendS, wipeS, sp_D, mx, mn]
      have hf : b.filter (fun _ => true) = b := List.filter_eq_self.mpr fun _ _ => rfl
      rw [hf] at h1
      unfold turn2F
      have hi : itemsOf (Datum.toD b) = some (b.map fun p : Pr => (Datum.toD p : D)) := rfl
      simp [lend, lendS, unlend, unlendS, wipeS, s2, hi, h1]
  have hfl : (a.flatMap fun p => b.map fun q => (Datum.toD ((mx p.1 q.1, mn p.2 q.2) : Pr) : D)) = (prods a b).map Datum.toD := by
    unfold prods
    rw [List.map_flatMap]
    simp
    rfl
  have h3 := comp_map (vs := [5]) (g := gN 5) (t := bOf (eOp dLe (eOp dIx (eV 5) (eC (.int 0))) (eOp dIx (eV 5) (eC (.int 1))))) (e := eV 5)
    (ss := [.imm (ra a), .imm (ra b), .imm (.list ((prods a b).map Datum.toD)), .un, .un, .un]) (fun p : Pr => (Datum.toD p : D)) (fun p => decide (p.1 ≤ p.2)) (fun p => (Datum.toD p : D)) (prods a b) fun p hp => by
      unfold turnF
      by_cases h : p.1 ≤ p.2 <;> simp [lend, lendS, unlend, unlendS, wipeS, sp_D, h]
  have hi : itemsOf (Datum.toD a) = some (a.map fun p : Pr => (Datum.toD p : D)) := rfl
  rw [hfl] at h2
  have hj := joined_eq (nep (prods a b)) (by omega)
  have e1 : (Datum.toD (nep (prods a b)) : D) = .list ((nep (prods a b)).map Datum.toD) := rfl
  rw [e1] at hj
  unfold nep at hj
  simp [s1, hi, wipeS, h2, backS, backF, keepS]
  rw [if_pos (by omega)]
  simp [wipeS, h3]
  rw [if_pos (by unfold nep at ln; omega)]
  simp [backS, backF, keepS, hj]
  rfl
theorem both_ok {n m : Nat} {a b : List Pr} (ha : Rg n a) (hb : Rg m b) (hn : n ≤ 100) (hm : m ≤ 100) : ∃ c, ev2 F_both (ra a) (ra b) = some (ra c) ∧ Rg (n * m) c ∧ ∀ x, Mem c x ↔ Mem a x ∧ Mem b x := by
  have l1 := ha.len
  have l2 := hb.len
  obtain ⟨h1, h2⟩ := join_srt (n := n * m) (ps := nep (prods a b)) (fun p hp => by
    obtain ⟨hp, hd⟩ := List.mem_filter.mp hp
    have hd := of_decide_eq_true hd
    obtain ⟨q, hq, hp⟩ := List.mem_flatMap.mp hp
    obtain ⟨r, hr, rfl⟩ := List.mem_map.mp hp
    have := can_all ha.can (Int.le_refl _) q hq
    have := can_all hb.can (Int.le_refl _) r hr
    simp only [mx, mn] at *
    repeat' split at *
    all_goals omega) (Nat.le_trans (nep_len _) (by rw [prods_len]; exact Nat.mul_le_mul l1 l2))
  refine ⟨_, both_eq a b ⟨ha.can, by omega⟩ ⟨hb.can, by omega⟩, h1, fun x => ?_⟩
  rw [h2]
  constructor
  · rintro ⟨p, hp, h3, h4⟩
    obtain ⟨hp, hd⟩ := List.mem_filter.mp hp
    obtain ⟨q, hq, hp⟩ := List.mem_flatMap.mp hp
    obtain ⟨r, hr, rfl⟩ := List.mem_map.mp hp
    simp only [mx, mn] at h3 h4
    refine ⟨⟨q, hq, ?_⟩, ⟨r, hr, ?_⟩⟩
    · repeat' split at *
      all_goals omega
    · repeat' split at *
      all_goals omega
  · rintro ⟨⟨q, hq, h3⟩, ⟨r, hr, h4⟩⟩
    refine ⟨(mx q.1 r.1, mn q.2 r.2), List.mem_filter.mpr ⟨List.mem_flatMap.mpr ⟨q, hq, List.mem_map.mpr ⟨r, hr, rfl⟩⟩, decide_eq_true ?_⟩, ?_⟩
    · simp only [mx, mn]
      repeat' split
      all_goals omega
    · simp only [mx, mn]
      repeat' split
      all_goals omega
end G

set_option maxHeartbeats 1000000
namespace G
open PySem Dt Dm Dk Rn
open L2 (atI ixN)
open PySem.W (Datum DatumOrd Tup T3 T4)
theorem either_eq (a b : List Pr) (ha : Rg 4000 a) (hb : Rg 4000 b) : ev2 F_either (ra a) (ra b) = some (ra (join (srt (a ++ b)))) := by
  unfold F_either
  rw [q_ev2]
  unfold B_either
  have l1 := ha.len
  have l2 := hb.len
  have s1 := spans_of_ra a ha.bd (by omega)
  have s2 := spans_of_ra b hb.bd (by omega)
  have hj := joined_eq (a ++ b) (by rw [List.length_append]; omega)
  have e0 : dAdd (Datum.toD a) (Datum.toD b) = some (Datum.toD (a ++ b)) := by
    show fits _ _ = _
    rw [q_fits, if_pos (by simp; omega), ← List.map_append]
    rfl
  simp [s1, s2, e0, hj]
theorem either_ok {n m : Nat} {a b : List Pr} (ha : Rg n a) (hb : Rg m b) (hn : n ≤ 4000) (hm : m ≤ 4000) : ∃ c, ev2 F_either (ra a) (ra b) = some (ra c) ∧ Rg (n + m) c ∧ ∀ x, Mem c x ↔ Mem a x ∨ Mem b x := by
  have l1 := ha.len
  have l2 := hb.len
  obtain ⟨h1, h2⟩ := join_srt (n := n + m) (ps := a ++ b) (fun p hp => by
    rcases List.mem_append.mp hp with hp | hp
    · exact can_all ha.can (Int.le_refl _) p hp
    · exact can_all hb.can (Int.le_refl _) p hp) (by rw [List.length_append]; omega)
  refine ⟨_, either_eq a b ⟨ha.can, by omega⟩ ⟨hb.can, by omega⟩, h1, fun x => ?_⟩
  rw [h2]
  simp only [Mem, List.mem_append, or_and_right, exists_or]
end G

set_option maxHeartbeats 1000000
namespace G
open PySem Dt Dm Dk Rn
open L2 (atI ixN)
open PySem.W (Datum DatumOrd Tup T3 T4)
def gaps : Int → List Pr → List Pr
  | lo, [] => [(lo, 999999)]
  | lo, p :: r => (lo, p.1 - 1) :: gaps (p.2 + 1) r
theorem gaps_len : ∀ (lo : Int) (ps : List Pr), (gaps lo ps).length = ps.length + 1
  | _, [] => rfl
  | lo, p :: r => by rw [gaps, List.length_cons, gaps_len, List.length_cons]
theorem gaps_ok : ∀ (ps : List Pr) (lo l : Int), Can l 999999 ps → 0 ≤ lo → lo ≤ l → lo ≤ 1000000 → (∀ p ∈ nep (gaps lo ps), 0 ≤ p.1 ∧ p.1 ≤ p.2 ∧ p.2 ≤ 999999) ∧ ∀ x, Mem (nep (gaps lo ps)) x ↔ (lo ≤ x ∧ x ≤ 999999) ∧ ¬Mem ps x
  | [], lo, l, h, h0, hl, hm => by
    unfold gaps nep
    by_cases hd : lo ≤ 999999
    · have e : List.filter (fun p : Pr => decide (p.1 ≤ p.2)) [(lo, 999999)] = [(lo, 999999)] := by simp [hd]
      rw [e]
      refine ⟨fun p hp => ?_, fun x => ?_⟩
      · have hp : p = (lo, 999999) := List.mem_singleton.mp hp
        subst hp
        exact ⟨h0, ⟨hd, Int.le_refl (999999 : Int)⟩⟩
      · rw [mem_cons]
        simp [mem_nil]
    · have e : List.filter (fun p : Pr => decide (p.1 ≤ p.2)) [(lo, 999999)] = [] := by simp [hd]
      rw [e]
      refine ⟨fun p hp => (nomatch hp), fun x => ?_⟩
      have : ¬(lo ≤ x ∧ x ≤ 999999) := by omega
      simp [mem_nil, this]
  | q :: r, lo, l, h, h0, hl, hm => by
    obtain ⟨h1, h2, h3, h4⟩ := h
    obtain ⟨k1, k2⟩ := gaps_ok r (q.2 + 1) (q.2 + 2) h4 (by omega) (by omega) (by omega)
    unfold gaps
    by_cases hd : lo ≤ q.1 - 1
    · have e : nep ((lo, q.1 - 1) :: gaps (q.2 + 1) r) = (lo, q.1 - 1) :: nep (gaps (q.2 + 1) r) := by
        unfold nep
        rw [List.filter_cons_of_pos (by simpa using hd)]
      rw [e]
      refine ⟨fun p hp => ?_, fun x => ?_⟩
      · rcases List.mem_cons.mp hp with rfl | hp
        · exact ⟨h0, hd, by show q.1 - 1 ≤ _; omega⟩
        · exact k1 p hp
      · rw [mem_cons, k2, mem_cons]
        show (lo ≤ x ∧ x ≤ q.1 - 1) ∨ _ ↔ _
        constructor
        · rintro (⟨z1, z2⟩ | ⟨⟨z1, z2⟩, z3⟩)
          · refine ⟨⟨z1, by omega⟩, fun z => ?_⟩
            rcases z with z | z
            · omega
            · have := (h4.low z).1; omega
          · refine ⟨⟨by omega, z2⟩, fun z => ?_⟩
            rcases z with z | z
            · omega
            · exact z3 z
        · rintro ⟨⟨z1, z2⟩, z3⟩
          by_cases hx : x ≤ q.1 - 1
          · exact .inl ⟨z1, hx⟩
          · refine .inr ⟨⟨?_, z2⟩, fun z => z3 (.inr z)⟩
            refine Decidable.byContradiction fun hc => z3 (.inl ?_)
            omega
    · have e : nep ((lo, q.1 - 1) :: gaps (q.2 + 1) r) = nep (gaps (q.2 + 1) r) := by
        unfold nep
        rw [List.filter_cons_of_neg (by simpa using hd)]
      rw [e]
      refine ⟨k1, fun x => ?_⟩
      rw [k2, mem_cons]
      constructor
      · rintro ⟨⟨z1, z2⟩, z3⟩
        refine ⟨⟨by omega, z2⟩, fun z => ?_⟩
        rcases z with z | z
        · omega
        · exact z3 z
      · rintro ⟨⟨z1, z2⟩, z3⟩
        refine ⟨⟨?_, z2⟩, fun z => z3 (.inr z)⟩
        refine Decidable.byContradiction fun hc => z3 (.inl ?_)
        omega
def gstep (s : List Pr × Int) (p : Pr) : List Pr × Int := (s.1 ++ [(s.2, p.1 - 1)], p.2 + 1)
theorem gstep_fold : ∀ (ps : List Pr) (acc : List Pr) (lo : Int), (ps.foldl gstep (acc, lo)).1 ++ [((ps.foldl gstep (acc, lo)).2, 999999)] = acc ++ gaps lo ps
  | [], acc, lo => rfl
  | p :: r, acc, lo => by
    rw [List.foldl_cons, gaps]
    show (List.foldl gstep (acc ++ [(lo, p.1 - 1)], p.2 + 1) r).1 ++ [((List.foldl gstep (acc ++ [(lo, p.1 - 1)], p.2 + 1) r).2, 999999)] = _
    rw [gstep_fold r]
    simp
def Im (x : Sl) : Prop := x = .un ∨ ∃ d, x = .imm d
def RR (S : D) (s : List Pr × Int) (rest : List Pr) (ss : SS) : Prop := (∃ x y, Im x ∧ Im y ∧ ss = [.imm S, .own (.lst (s.1.map Datum.toD)), .imm (.int s.2), x, y, .un]) ∧ s.1.length + rest.length ≤ 9000
theorem rest_eq (a : List Pr) (ha : Rg 9000 a) : ev1 F_rest (ra a) = some (ra (join (srt (nep (gaps 0 a))))) := by
  unfold F_rest
  rw [q_ev1]
  unfold B_rest
  have l1 := ha.len
  have s1 := spans_of_ra a ha.bd (by omega)
  obtain ⟨s2, h1, ⟨x, y, hx, hy, rfl⟩, h2⟩ := loop_rest (g := gTup 2 (gCons (gN 3) (gCons (gN 4) gNil)))
    (b := sSeq (sApp 1 (eTup (lCons (eV 2) (lCons (eOp dSub (eV 3) (eC (.int 1))) lNil)))) (sAsg (eOp dAdd (eV 4) (eC (.int 1))) (gN 2)))
    (fun p : Pr => (Datum.toD p : D)) gstep (RR (ra a)) (fun s p r ss hR => by
      obtain ⟨⟨x, y, _, _, rfl⟩, hb⟩ := hR
      rw [List.length_cons] at hb
      refine ⟨[.imm (ra a), .own (.lst (s.1.map Datum.toD)), .imm (.int s.2), .imm (.int p.1), .imm (.int p.2), .un], _, by simp [sp_D], ?_, ⟨⟨.imm (.int p.1), .imm (.int p.2), .inr ⟨_, rfl⟩, .inr ⟨_, rfl⟩, rfl⟩, ?_⟩⟩
      · have : s.1.length < 16777216 := by omega
        simp [gstep, sp_D, this]
      · simp [gstep]
        omega) a ([], 0) [.imm (ra a), .own (.lst []), .imm (.int 0), .un, .un, .un] ⟨⟨.un, .un, .inl rfl, .inl rfl, rfl⟩, by simp; omega⟩
  have hi : itemsOf (Datum.toD a) = some (a.map fun p : Pr => (Datum.toD p : D)) := rfl
  have hl : ev1 F_place_of k_LAST = some (.int 999999) := place_of_at 999999 (by decide) (by decide)
  have hg := gstep_fold a [] 0
  rw [List.nil_append] at hg
  generalize hG : List.foldl gstep ([], 0) a = G at *
  have h3 := comp_map (vs := [5]) (g := gN 5) (t := bOf (eOp dLe (eOp dIx (eV 5) (eC (.int 0))) (eOp dIx (eV 5) (eC (.int 1))))) (e := eV 5)
    (ss := [.imm (ra a), .imm (.list ((gaps 0 a).map Datum.toD)), .imm (.int G.2), x, y, .un]) (fun p : Pr => (Datum.toD p : D)) (fun p => decide (p.1 ≤ p.2)) (fun p => (Datum.toD p : D)) (gaps 0 a) fun p hp => by
      unfold turnF
      rcases hx with rfl | ⟨u, rfl⟩ <;> rcases hy with rfl | ⟨v, rfl⟩ <;> by_cases h : p.1 ≤ p.2 <;> simp [lend, lendS, unlend, unlendS, wipeS, sp_D, h]
  have hgl := gaps_len 0 a
  have ln := nep_len (gaps 0 a)
  have hj := joined_eq (nep (gaps 0 a)) (by omega)
  have e1 : (Datum.toD (nep (gaps 0 a)) : D) = .list ((nep (gaps 0 a)).map Datum.toD) := rfl
  have e2 : G.1.map Datum.toD ++ [.tuple [.int G.2, .int 999999]] = (gaps 0 a).map Datum.toD := by
    rw [← hg, List.map_append]; rfl
  rw [e1] at hj
  unfold nep at hj
  have lg : G.1.length < 16777216 := by
    have := congrArg List.length hg
    rw [List.length_append] at this
    simp at this
    omega
  simp [s1, hi, h1, hl, lg, e2, wipeS, h3]
  rw [if_pos (by unfold nep at ln; omega)]
  simp [backS, backF, keepS, hj]
  rfl
theorem rest_ok {n : Nat} {a : List Pr} (ha : Rg n a) (hn : n ≤ 9000) : ∃ c, ev1 F_rest (ra a) = some (ra c) ∧ Rg (n + 1) c ∧ ∀ x, Mem c x ↔ (0 ≤ x ∧ x ≤ 999999) ∧ ¬Mem a x := by
  have l1 := ha.len
  obtain ⟨g1, g2⟩ := gaps_ok a 0 0 ha.can (by decide) (by decide) (by decide)
  have ln := nep_len (gaps 0 a)
  rw [gaps_len] at ln
  obtain ⟨h1, h2⟩ := join_srt (n := n + 1) g1 (by omega)
  refine ⟨_, rest_eq a ⟨ha.can, by omega⟩, h1, fun x => ?_⟩
  rw [h2, g2]
theorem count_ok {n : Nat} {a : List Pr} (ha : Rg n a) (hn : n ≤ 9000) : ev1 F_count (ra a) = some (.int (cnt (Mem a) 1000000)) := by
  unfold F_count
  rw [q_ev1]
  unfold B_count
  have l1 := ha.len
  have s1 := spans_of_ra a ha.bd (by omega)
  have hi : itemsOf (Datum.toD a) = some (a.map fun p : Pr => (Datum.toD p : D)) := rfl
  have h3 := comp_map (vs := [1, 2]) (g := gTup 2 (gCons (gN 1) (gCons (gN 2) gNil))) (t := bYes) (e := eOp dAdd (eOp dSub (eV 2) (eV 1)) (eC (.int 1)))
    (ss := [.imm (ra a), .un, .un]) (fun p : Pr => (Datum.toD p : D)) (fun _ => true) (fun p => (.int (p.2 - p.1 + 1) : D)) a fun p hp => by
      unfold turnF
      simp [lend, lendS, unlend, unlendS, wipeS, sp_D]
  have hf : a.filter (fun _ => true) = a := List.filter_eq_self.mpr fun _ _ => rfl
  rw [hf] at h3
  have hs : (a.map fun p : Pr => (.int (p.2 - p.1 + 1) : D)).mapM asI = some (a.map fun p => p.2 - p.1 + 1) := by
    clear h3 hf hi s1 l1 ha hn
    induction a with
    | nil => rfl
    | cons p r ih => simp [List.mapM_cons, ih, asI]
  have ht := tot_cnt (hi := 999999) (n := 1000000) (by decide) (Int.le_refl 0) ha.can
  unfold tot at ht
  simp [s1, hi, wipeS, h3]
  rw [if_pos (by omega)]
  simp only [List.mapM_map] at hs
  simp [backS, backF, keepS]
  rw [show (asI ∘ fun p : Pr => (.int (p.2 - p.1 + 1) : D)) = fun p : Pr => asI (.int (p.2 - p.1 + 1)) from rfl]
  first | rw [hs] | (simp only [Function.comp_def] at hs; rw [hs])
  simp [ht]
theorem within_ok {n m : Nat} {a b : List Pr} (ha : Rg n a) (hb : Rg m b) (hn : n ≤ 100) (hm : m ≤ 100) : ∃ t : Bool, ev2 F_is_within (ra a) (ra b) = some (.bool t) ∧ (t = true ↔ ∀ x, Mem a x → Mem b x) := by
  obtain ⟨c, h1, h2, h3⟩ := both_ok ha hb hn hm
  refine ⟨decide (rt c = rt a), ?_, ?_⟩
  · unfold F_is_within
    rw [q_ev2]
    unfold B_is_within
    have := eq_dat (rt c) (rt a)
    have e : dEq (ra c) (ra a) = some (.bool (decide (rt c = rt a))) := this
    simp [h1, e]
  · rw [decide_eq_true_eq]
    constructor
    · intro e x hx
      have := rt_inj e
      subst this
      exact ((h3 x).mp hx).2
    · intro e
      rw [h2.can.ext ha.can fun x => by rw [h3]; exact ⟨fun z => z.1, fun z => ⟨z, e x z⟩⟩]
end G

set_option maxHeartbeats 1000000
namespace G
open PySem Dt Dm Dk
open L2 (atI ixN)
open PySem.W (Datum DatumOrd Tup T3 T4)
open TL (tl spl numL)
theorem mapM_some {α β : Type} (f : α → β) : ∀ ds : List α, ds.mapM (fun d => some (f d)) = some (ds.map f)
  | [] => rfl
  | d :: ds => by rw [List.mapM_cons, mapM_some f ds]; rfl
def fig (c : Nat) : Bool := decide (48 ≤ c) && decide (c ≤ 57)
/-- a number as it is written: no nought ahead, two figures at most -/
def num (w : Str) : Option Int :=
  if (1 ≤ w.length ∧ w.length ≤ 2 ∧ (tl w).all fig = true) ∧ ((tl w).head? = some 48 → tl w = [48]) then some ((NumText.digitsVal (tl w) : Nat) : Int) else none
def optD : Option Int → D
  | some i => .int i
  | none => .none
theorem one_eq (c k : Nat) : ((⟨#[c]⟩ : Str) == ⟨#[k]⟩) = decide (c = k) := by
  rw [Bool.eq_iff_iff, beq_iff_eq, decide_eq_true_eq]
  constructor
  · intro h; cases h; rfl
  · intro h; rw [h]
theorem fig_mem (c : Nat) : decide (c ∈ (Str.ofString "0123456789").cps.toList) = fig c := by
  have e : (Str.ofString "0123456789").cps.toList = [48, 49, 50, 51, 52, 53, 54, 55, 56, 57] := TL.tl_ofString _
  rw [e, Bool.eq_iff_iff, decide_eq_true_eq]
  unfold fig
  simp
  omega
theorem ge_ch (c k : Nat) : decide (([k] : List Nat) < [c]) = decide (k < c) := by
  rw [decide_eq_decide, List.cons_lt_cons_iff]
  simp
theorem zero_is : Str.ofString "0" = ⟨#[48]⟩ := TL.ext_tl (TL.tl_ofString _)
theorem nine_is : Str.ofString "9" = ⟨#[57]⟩ := TL.ext_tl (TL.tl_ofString _)
theorem int_of_fig {w : Str} (h1 : 1 ≤ w.length) (h2 : w.length ≤ 640) (h : (tl w).all fig = true) : gInt [.str w] = some (.int ((NumText.digitsVal (tl w) : Nat) : Int)) := by
  have hd : NumText.AllDigits w.cps.toList := fun c hc => by
    have := List.all_eq_true.mp h c hc
    unfold fig at this
    simpa using this
  have e := intText_digits hd (by rw [TL.len_tl] at h1; intro z; rw [show tl w = [] from z] at h1; simp at h1) (by omega)
  unfold gInt
  simp only
  rw [if_pos h2, e]
  rfl
theorem in_fig (c : Nat) : dIn (.str ⟨#[c]⟩) (.str (Str.ofString "0123456789")) = some (.bool (fig c)) := by
  unfold dIn inB
  simp only
  rw [fig_mem]
  rfl
theorem len_s (x : Str) (h : x.length ≤ 16777216) : gLen [.str x] = some (.int x.length) := if_pos (show x.length ≤ sizeLine from h)
theorem items_s (x : Str) : itemsOf (.str x) = some ((tl x).map fun c => .str ⟨#[c]⟩) := rfl
theorem ix_s (x : Str) (c : Nat) (r : List Nat) (h : tl x = c :: r) (hl : x.length ≤ 16777216) : dIx (.str x) (.int 0) = some (.str ⟨#[c]⟩) := by
  refine (if_pos (show x.length ≤ sizeLine from hl)).trans ?_
  show ((atI (tl x) 0).map _) = _
  rw [h, q_at0]
  rfl
theorem zero_w (w : Str) : (w == Str.ofString "0") = decide (tl w = [48]) := by
  rw [Bool.eq_iff_iff, beq_iff_eq, decide_eq_true_eq]
  constructor
  · intro h; rw [h]; exact TL.tl_ofString _
  · intro h; exact TL.ext_tl (h.trans (TL.tl_ofString "0").symm)
theorem num_pos {w : Str} (h : (1 ≤ w.length ∧ w.length ≤ 2 ∧ (tl w).all fig = true) ∧ ((tl w).head? = some 48 → tl w = [48])) : num w = some ((NumText.digitsVal (tl w) : Nat) : Int) := if_pos h
theorem num_neg {w : Str} (h : ¬((1 ≤ w.length ∧ w.length ≤ 2 ∧ (tl w).all fig = true) ∧ ((tl w).head? = some 48 → tl w = [48]))) : num w = none := if_neg h
theorem val99 {c : Nat} {r : List Nat} (hg : (c :: r).all fig = true) (h2 : (c :: r).length ≤ 2) : NumText.digitsVal (c :: r) ≤ 99 := by
  simp [fig] at hg
  cases r with
  | nil => simp [NumText.digitsVal]; omega
  | cons b r =>
    cases r with
    | nil => simp at hg; simp [NumText.digitsVal]; omega
    | cons _ _ => simp at h2
theorem str99 : gStr [.int 99] = some (.str (Str.ofString "99")) := rfl
theorem len99 : (Str.ofString "99").length = 2 := rfl
theorem number_in_eq (w : Str) (hw : w.length ≤ 1000000) : ev2 F_number_in (.str w) (.int 99) = some (optD (num w)) := by
  unfold F_number_in
  rw [q_ev2]
  unfold B_number_in
  have hl := len_s w (by omega)
  have hl2 : gLen [.str (Str.ofString "99")] = some (.int 2) := rfl
  have hlt := TL.len_tl w
  by_cases h1 : 1 ≤ w.length
  · have h1' : (1 : Int) ≤ w.length := by omega
    by_cases h2 : w.length ≤ 2
    · have h2' : (w.length : Int) ≤ 2 := by omega
      have hc := comp_map (vs := [2]) (g := gN 2) (t := bYes) (e := eOp dIn (eV 2) (eC k_FIGURES)) (ss := [.imm (.str w), .imm (.int 99), .un]) (fun c : Nat => (.str ⟨#[c]⟩ : D)) (fun _ => true) (fun c => (.bool (fig c) : D)) (tl w) fun c hc => by
        have := in_fig c
        unfold turnF
        simp [lend, lendS, unlend, unlendS, wipeS, k_FIGURES, this]
      have hf : (tl w).filter (fun _ => true) = tl w := List.filter_eq_self.mpr fun _ _ => rfl
      rw [hf] at hc
      have hm := mapM_some fig (tl w)
      have hlw : w.cps.size ≤ 16777216 := by have : w.cps.size = w.length := rfl; omega
      have hall : gAll [.list ((tl w).map fun c => (.bool (fig c) : D))] = some (.bool ((tl w).all fig)) := by
        simp [hm, Function.comp_def]
      obtain ⟨c, r, hcr⟩ : ∃ c r, tl w = c :: r := by
        cases e : tl w with
        | nil => rw [e] at hlt; simp at hlt; omega
        | cons c r => exact ⟨c, r, rfl⟩
      have hix := ix_s w c r hcr (by omega)
      have h0 := one_eq c 48
      rw [← zero_is] at h0
      have hz := zero_w w
      by_cases hg : (tl w).all fig = true
      · have hi := int_of_fig h1 (by omega) hg
        have hv : NumText.digitsVal (tl w) ≤ 99 := by
          rw [hcr] at hg hlt ⊢
          exact val99 hg (by omega)
        have hv' : ¬ (99 : Int) < (NumText.digitsVal (tl w) : Nat) := by omega
        by_cases hk : c = 48 ∧ ¬ tl w = [48]
        · have hn : num w = none := num_neg fun z => hk.2 (z.2 (by rw [hcr, hk.1]; rfl))
          rw [hn]
          have k1 : ((⟨#[c]⟩ : Str) == Str.ofString "0") = true := by rw [h0]; exact decide_eq_true hk.1
          have k2 : (w == Str.ofString "0") = false := by rw [hz]; exact decide_eq_false hk.2
          simp [-q_all, hl, str99, hl2, h1', h2', items_s, wipeS, hc, hlw, backS, backF, keepS, hall, hg, hix, k1, k2, optD]
        · have hn : num w = some ((NumText.digitsVal (tl w) : Nat) : Int) := num_pos ⟨⟨h1, h2, hg⟩, fun z => by
            rw [hcr] at z
            have z : c = 48 := Option.some.inj z
            exact Decidable.byContradiction fun k => hk ⟨z, k⟩⟩
          rw [hn]
          by_cases hc48 : c = 48
          · have hk2 : tl w = [48] := Decidable.byContradiction fun k => hk ⟨hc48, k⟩
            have hz' : (w == Str.ofString "0") = true := by rw [hz]; exact decide_eq_true hk2
            have k1 : ((⟨#[c]⟩ : Str) == Str.ofString "0") = true := by rw [h0]; exact decide_eq_true hc48
            simp [-q_all, hl, str99, hl2, h1', h2', items_s, wipeS, hc, hlw, backS, backF, keepS, hall, hg, hix, k1, hz', hi, hv', optD]
          · have k1 : ((⟨#[c]⟩ : Str) == Str.ofString "0") = false := by rw [h0]; exact decide_eq_false hc48
            simp [-q_all, hl, str99, hl2, h1', h2', items_s, wipeS, hc, hlw, backS, backF, keepS, hall, hg, hix, k1, hi, hv', optD]
      · have hn : num w = none := num_neg fun z => hg z.1.2.2
        rw [hn]
        have hg' : (tl w).all fig = false := by simpa using hg
        simp [-q_all, hl, str99, hl2, h1', h2', items_s, wipeS, hc, hlw, backS, backF, keepS, hall, hg', optD]
    · have hn : num w = none := num_neg fun z => h2 z.1.2.1
      have h2' : ¬ (w.length : Int) ≤ 2 := by omega
      rw [hn]
      simp [hl, str99, hl2, h1', h2', optD]
  · have hn : num w = none := num_neg fun z => h1 z.1.1
    have h1' : ¬ (1 : Int) ≤ w.length := by omega
    rw [hn]
    simp [hl, str99, hl2, h1', optD]
end G

set_option maxHeartbeats 1000000
namespace G
open PySem Dt Dm Dk
open L2 (atI ixN)
open PySem.W (Datum DatumOrd Tup T3 T4)
open TL (tl spl numL)
def rd (x : Str) : D := if (Txt.split x (Str.ofString ".")).length = 3 ∧ ((Txt.split x (Str.ofString ".")).all fun w => (num w).isSome) = true then .tuple ((Txt.split x (Str.ofString ".")).map fun w => optD (num w)) else .none
theorem none_in (ws : List Str) : (ws.map fun w => optD (num w)).any (fun y => PyData.eqv y .none) = !(ws.all fun w => (num w).isSome) := by
  induction ws with
  | nil => rfl
  | cons w ws ih =>
    rw [List.map_cons, List.any_cons, List.all_cons, ih]
    cases num w <;> simp [optD, PyData.eqv]
theorem optD_plain (ws : List Str) : PyData.plainAll (ws.map fun w => optD (num w)) = true := by
  induction ws with
  | nil => rfl
  | cons w ws ih =>
    rw [List.map_cons]
    unfold PyData.plainAll
    rw [ih]
    cases num w <;> rfl
theorem in_none (ws : List Str) : dIn .none (.list (ws.map fun w => optD (num w))) = some (.bool (!(ws.all fun w => (num w).isSome))) := by
  unfold dIn inB
  simp only
  rw [if_pos ⟨rfl, optD_plain ws, Nat.le_trans (Nat.min_le_right _ _) (Nat.zero_le _)⟩, none_in]
  rfl
theorem nin_none (ws : List Str) : dNin .none (.list (ws.map fun w => optD (num w))) = some (.bool (ws.all fun w => (num w).isSome)) := by
  unfold dNin inB
  simp only
  rw [if_pos ⟨rfl, optD_plain ws, Nat.le_trans (Nat.min_le_right _ _) (Nat.zero_le _)⟩, none_in]
  simp
theorem spl_len (s : Nat) : ∀ (l acc : List Nat), (∀ p ∈ spl [s] 0 acc l, p.length ≤ acc.length + l.length) ∧ (spl [s] 0 acc l).length ≤ l.length + 1
  | [], acc => by
    rw [TL.spl_nil]
    exact ⟨fun p hp => by rw [List.mem_singleton.mp hp]; omega, by simp⟩
  | c :: r, acc => by
    cases h : TL.pre [s] (c :: r) with
    | true =>
      rw [TL.spl_hit h]
      obtain ⟨k1, k2⟩ := spl_len s r []
      refine ⟨fun p hp => ?_, ?_⟩
      · rcases List.mem_cons.mp hp with rfl | hp
        · omega
        · have := k1 p hp
          rw [List.length_nil] at this
          rw [List.length_cons]; omega
      · rw [List.length_cons, List.length_cons]
        exact Nat.succ_le_succ k2
    | false =>
      rw [TL.spl_miss h]
      obtain ⟨k1, k2⟩ := spl_len s r (acc ++ [c])
      refine ⟨fun p hp => ?_, ?_⟩
      · have := k1 p hp
        rw [List.length_append, List.length_singleton] at this
        rw [List.length_cons]; omega
      · rw [List.length_cons]; omega
theorem dot_tl : tl (Str.ofString ".") = [46] := TL.tl_ofString _
theorem split_len (x : Str) : (∀ w ∈ Txt.split x (Str.ofString "."), w.length ≤ x.length) ∧ (Txt.split x (Str.ofString ".")).length ≤ x.length + 1 := by
  have e := TL.split_spl x (Str.ofString ".") (by rw [dot_tl]; simp) (TL.kind_ok (by decide +kernel))
  rw [dot_tl] at e
  obtain ⟨k1, k2⟩ := spl_len 46 (tl x) []
  rw [← e] at k1 k2
  refine ⟨fun w hw => ?_, ?_⟩
  · have := k1 (tl w) (List.mem_map_of_mem hw)
    rw [TL.len_tl, TL.len_tl]
    simpa using this
  · rw [TL.len_tl]
    simpa using k2
theorem gsplit (x : Str) (h : x.length ≤ 1000000) : gSplit x (.str (Str.ofString ".")) = some (.lst ((Txt.split x (Str.ofString ".")).map .str)) := by
  unfold gSplit
  simp only
  rw [if_pos ⟨rfl, by show x.length + 2 ≤ 16777216; omega⟩]
theorem read_edition_eq (x : Str) (h : x.length ≤ 1000000) : ev1 F_read_edition (.str x) = some (rd x) := by
  unfold F_read_edition
  rw [q_ev1]
  unfold B_read_edition
  obtain ⟨k1, k2⟩ := split_len x
  have hs := gsplit x h
  unfold rd
  generalize Txt.split x (Str.ofString ".") = ws at *
  have hc := comp_map (vs := [2]) (g := gN 2) (t := bYes) (e := eCall F_number_in (aCons (eV 2) (aCons (eC k_MOST) aNil))) (ss := [.imm (.str x), .un, .un]) (fun w : Str => (.str w : D)) (fun _ => true) (fun w => optD (num w)) ws fun w hw => by
    have := number_in_eq w (Nat.le_trans (k1 w hw) h)
    unfold turnF
    simp [lend, lendS, unlend, unlendS, wipeS, k_MOST, this]
  have hf : ws.filter (fun _ => true) = ws := List.filter_eq_self.mpr fun _ _ => rfl
  rw [hf] at hc
  have hn := nin_none ws
  have hlw : ws.length ≤ 16777216 := by omega
  by_cases h3 : ws.length = 3
  · have h33 : (ws.length : Int) = 3 := by omega
    cases ha : ws.all fun w => (num w).isSome <;> rw [ha] at hn <;> simp [hs, wipeS, hc, hlw, backS, backF, keepS, h3, h33, hn]
  · have h33 : ((ws.length : Int) == 3) = false := by rw [beq_eq_false_iff_ne]; omega
    simp [hs, wipeS, hc, hlw, backS, backF, keepS, h3, h33]
end G

set_option maxHeartbeats 1000000
namespace G
open PySem Dt Dm Dk
open L2 (atI ixN)
open PySem.W (Datum DatumOrd Tup T3 T4)
open TL (tl spl numL)
theorem sn_tl {a : Int} (h0 : 0 ≤ a) : tl (sn a) = numL a.toNat := by
  have := TL.tl_num a.toNat
  rw [Int.toNat_of_nonneg h0] at this
  exact this
theorem sn_len {a : Int} (h0 : 0 ≤ a) (h1 : a ≤ 99) : 1 ≤ (sn a).length ∧ (sn a).length ≤ 2 := by
  rw [TL.len_tl, sn_tl h0]
  refine ⟨?_, TL.numL_len (by decide) (by omega)⟩
  have := TL.numL_ne a.toNat
  cases e : numL a.toNat with
  | nil => exact absurd e this
  | cons _ _ => simp
theorem sn_num {a : Int} (h0 : 0 ≤ a) (h1 : a ≤ 99) : num (sn a) = some a := by
  obtain ⟨l1, l2⟩ := sn_len h0 h1
  have hd := TL.numL_digits a.toNat
  have hv := TL.numL_val a.toNat
  rw [num_pos ⟨⟨l1, l2, ?_⟩, ?_⟩, sn_tl h0, hv, Int.toNat_of_nonneg h0]
  · rw [sn_tl h0, List.all_eq_true]
    intro c hc
    have := hd c hc
    unfold fig
    simpa using this
  · rw [sn_tl h0]
    intro z
    by_cases h : a.toNat < 10
    · rw [TL.numL_lt h] at z ⊢
      have z : 48 + a.toNat = 48 := Option.some.inj z
      rw [z]
    · rw [TL.numL_step (by omega), TL.numL_lt (by omega)] at z
      have z : 48 + a.toNat / 10 = 48 := Option.some.inj z
      omega
theorem sn_dot {a : Int} (h0 : 0 ≤ a) : 46 ∉ tl (sn a) := by
  rw [sn_tl h0]
  exact TL.numL_free (.inl (by decide))
theorem gstr {a : Int} (h : a.natAbs < 2 ^ 64) : gStr [.int a] = some (.str (sn a)) := by
  unfold gStr
  simp only
  rw [if_pos (Nat.lt_trans (log_lt h) (by decide))]
  rfl
def txt (a b c : Int) : Str := Txt.join (Str.ofString ".") [sn a, sn b, sn c]
theorem txt_eq (a b c : Int) : ((((Str.empty ++ sn a) ++ Str.ofString ".") ++ sn b) ++ Str.ofString ".") ++ sn c = txt a b c := by
  refine TL.ext_tl ?_
  unfold txt
  rw [TL.join_eq, TL.tl_join]
  have e : tl Str.empty = [] := rfl
  simp [TL.tl_append, e, TL.joinL, dot_tl]
theorem txt_len {a b c : Int} (ha : 0 ≤ a ∧ a ≤ 99) (hb : 0 ≤ b ∧ b ≤ 99) (hc : 0 ≤ c ∧ c ≤ 99) : (txt a b c).length ≤ 8 := by
  rw [← txt_eq, len_app, len_app, len_app, len_app, len_app]
  have := sn_len ha.1 ha.2
  have := sn_len hb.1 hb.2
  have := sn_len hc.1 hc.2
  have e : Str.empty.length = 0 := rfl
  have e1 : (Str.ofString ".").length = 1 := rfl
  omega
theorem read_txt {a b c : Int} (ha : 0 ≤ a ∧ a ≤ 99) (hb : 0 ≤ b ∧ b ≤ 99) (hc : 0 ≤ c ∧ c ≤ 99) : rd (txt a b c) = Datum.toD (T3.mk a b c) := by
  unfold rd txt
  rw [TL.split_join dot_tl (by decide +kernel) (by simp) (by
    intro p hp
    simp at hp
    rcases hp with rfl | rfl | rfl
    · exact sn_dot ha.1
    · exact sn_dot hb.1
    · exact sn_dot hc.1)]
  rw [if_pos ⟨rfl, by simp [sn_num ha.1 ha.2, sn_num hb.1 hb.2, sn_num hc.1 hc.2]⟩, ed_D]
  simp [sn_num ha.1 ha.2, sn_num hb.1 hb.2, sn_num hc.1 hc.2, optD]
theorem show_edition_eq {a b c : Int} (ha : 0 ≤ a ∧ a ≤ 99) (hb : 0 ≤ b ∧ b ≤ 99) (hc : 0 ≤ c ∧ c ≤ 99) : ev1 F_show_edition (Datum.toD (T3.mk a b c)) = some (.str (txt a b c)) := by
  unfold F_show_edition
  rw [q_ev1]
  unfold B_show_edition
  rw [ed_D]
  have la := sn_len ha.1 ha.2
  have lb := sn_len hb.1 hb.2
  have lc := sn_len hc.1 hc.2
  have t := txt_eq a b c
  have e0 : Str.empty.length = 0 := rfl
  have e1 : (Str.ofString ".").length = 1 := rfl
  simp (disch := omega) [-q_size, -q_nLc, -q_nLc2, -getElem?_pos, -getElem?_neg, List.getElem?_cons_zero, List.getElem?_cons_succ, if_sz, if_sl, if_le, if_lt, if_log, rp_sn, t, e0, e1]
end G

set_option maxHeartbeats 1000000
/-! what a bound writes -/
namespace G
open PySem Dt Dm Dk Rn
open L2 (atI ixN)
open PySem.W (Datum DatumOrd Tup T3 T4)
open TL (tl spl numL pre)
theorem starts_pre (x y : Str) (hy : tl y ≠ []) : Txt.startswith x y = pre (tl y) (tl x) := by
  have h := TL.at_iff (x := x) (y := y) hy 0
  rw [List.drop_zero] at h
  rw [Bool.eq_iff_iff, ← h]
  unfold Txt.startswith
  rw [Bool.and_eq_true, decide_eq_true_eq]
  rfl
theorem cut_tl (z : Str) (k : Nat) : tl (L2.cutS z (some (k : Int)) none) = (tl z).drop k := by
  show ((z.cps.toList.drop (HT.sIx z.length 0 (some (k : Int)))).take (HT.sIx z.length z.length none - HT.sIx z.length 0 (some (k : Int)))) = _
  rw [HT.sIx_none, HT.sIx_nat]
  have hl : z.length = (tl z).length := TL.len_tl z
  show ((tl z).drop _).take _ = _
  by_cases h : k ≤ z.length
  · rw [Nat.min_eq_left h, List.take_of_length_le]
    rw [List.length_drop]; omega
  · rw [Nat.min_eq_right (by omega), List.drop_of_length_le (by omega), List.drop_of_length_le (by omega), List.take_nil]
theorem sl_str (z : Str) (k : Nat) (h : z.length ≤ 16777216) : dSl (.str z) (some (k : Int)) none = some (.str (L2.cutS z (some (k : Int)) none)) := if_pos h
def EdR (e : Ed) : Prop := (0 ≤ e.a ∧ e.a ≤ 99) ∧ (0 ≤ e.b ∧ e.b ≤ 99) ∧ (0 ≤ e.c ∧ e.c ≤ 99)
def rdE (x : Str) : Option Ed := match rd x with
  | .tuple [.int a, .int b, .int c] => some ⟨a, b, c⟩
  | _ => none
theorem num_rng {w : Str} {i : Int} (h : num w = some i) : 0 ≤ i ∧ i ≤ 99 := by
  unfold num at h
  split at h
  · rename_i c
    cases h
    have hlt := TL.len_tl w
    obtain ⟨⟨c1, c2, c3⟩, _⟩ := c
    cases e : tl w with
    | nil => rw [e] at hlt; simp at hlt; omega
    | cons x r =>
      rw [e] at c3 hlt
      have := val99 c3 (by omega)
      omega
  · cases h
def optE : Option Ed → D
  | some e => Datum.toD e
  | none => .none
theorem rdE_rd (x : Str) : rd x = optE (rdE x) ∧ ∀ e, rdE x = some e → EdR e := by
  unfold rdE
  by_cases c : (Txt.split x (Str.ofString ".")).length = 3 ∧ ((Txt.split x (Str.ofString ".")).all fun w => (num w).isSome) = true
  · have e : rd x = .tuple ((Txt.split x (Str.ofString ".")).map fun w => optD (num w)) := if_pos c
    obtain ⟨c1, c2⟩ := c
    rw [e]
    generalize Txt.split x (Str.ofString ".") = ws at c1 c2
    match ws, c1 with
    | [u, v, w], _ =>
      simp only [List.all_cons, List.all_nil, Bool.and_true, Bool.and_eq_true, Option.isSome_iff_exists] at c2
      obtain ⟨⟨i, hi⟩, ⟨j, hj⟩, ⟨k, hk⟩⟩ := c2
      simp only [List.map_cons, List.map_nil, hi, hj, hk, optD]
      refine ⟨rfl, fun e he => ?_⟩
      cases he
      exact ⟨num_rng hi, num_rng hj, num_rng hk⟩
  · have e : rd x = .none := if_neg c
    rw [e]
    exact ⟨rfl, fun e he => nomatch he⟩
def pl (e : Ed) : Int := e.a * 10000 + e.b * 100 + e.c
theorem at_pl {e : Ed} (h : EdR e) : at_ (pl e) = e := by
  obtain ⟨a, b, c⟩ := e
  obtain ⟨h1, h2, h3⟩ := h
  simp only at h1 h2 h3
  unfold at_ pl
  simp only
  congr 1 <;> omega
theorem pl_rng {e : Ed} (h : EdR e) : 0 ≤ pl e ∧ pl e ≤ 999999 := by
  obtain ⟨a, b, c⟩ := e
  obtain ⟨h1, h2, h3⟩ := h
  simp only at h1 h2 h3
  unfold pl
  simp only
  omega
abbrev mLe : Str := Str.ofString "<="
abbrev mGe : Str := Str.ofString ">="
abbrev mLt : Str := Str.ofString "<"
abbrev mGt : Str := Str.ofString ">"
abbrev mEq : Str := Str.ofString "="
abbrev mTi : Str := Str.ofString "~"
abbrev mHa : Str := Str.ofString "^"
def marks7 : List Str := [mLe, mGe, mLt, mGt, mEq, mTi, mHa]
def topE (m : Str) (e : Ed) : Ed := if m = mTi then ⟨e.a, e.b, 99⟩ else if 0 < e.a then ⟨e.a, 99, 99⟩ else if 0 < e.b then ⟨0, e.b, 99⟩ else e
def sp5 (p : Int) : List (Str × Pr) := [(mLe, (0, p)), (mGe, (p, 999999)), (mLt, (0, p - 1)), (mGt, (p + 1, 999999)), (mEq, (p, p))]
def spanP (m : Str) (e : Ed) : List Pr := if m = mTi ∨ m = mHa then [(pl e, pl (topE m e))] else match tget (sp5 (pl e)) m with
  | some q => if q.1 ≤ q.2 then [q] else []
  | none => []
def mrk (w : Str) : Option Str := (marks7.filter fun m => Txt.startswith w m).head?
def bnd (w : Str) : Option (List Pr) := match mrk w with
  | none => none
  | some m => match rdE (L2.cutS w (some (m.length : Int)) none) with
    | none => none
    | some e => some (spanP m e)
def optR (o : Option (List Pr)) : D := match o with
  | some ps => ra ps
  | none => .none
theorem m_ne : (mTi = mHa) = False ∧ (mLe = mTi ∨ mLe = mHa) = False ∧ (mGe = mTi ∨ mGe = mHa) = False ∧ (mLt = mTi ∨ mLt = mHa) = False ∧ (mGt = mTi ∨ mGt = mHa) = False ∧ (mEq = mTi ∨ mEq = mHa) = False := by
  refine ⟨eq_false ?_, eq_false ?_, eq_false ?_, eq_false ?_, eq_false ?_, eq_false ?_⟩ <;> decide +kernel
theorem top_ok {m : Str} {e : Ed} (he : EdR e) : ev2 F_top_of (.str m) (Datum.toD e) = some (Datum.toD (topE m e)) ∧ EdR (topE m e) ∧ pl e ≤ pl (topE m e) := by
  obtain ⟨a, b, c⟩ := e
  obtain ⟨h1, h2, h3⟩ := he
  simp only at h1 h2 h3
  unfold topE
  refine ⟨?_, ?_, ?_⟩
  · unfold F_top_of
    rw [q_ev2]
    unfold B_top_of
    rw [ed_D]
    have e1 := eq_str m mTi
    by_cases c1 : m = mTi
    · simp [-q_eqs, e1, c1, ed_D]
      rw [c1] at e1
      simp [-q_eqs, e1]
    · rw [decide_eq_false c1] at e1
      by_cases c2 : 0 < a
      · simp [-q_eqs, e1, c1, c2, ed_D]
      · by_cases c3 : 0 < b <;> simp [-q_eqs, e1, c1, c2, c3, ed_D]
  · unfold EdR
    split
    · simp only; omega
    · split
      · simp only; omega
      · split
        · simp only; omega
        · exact ⟨h1, h2, h3⟩
  · show pl ⟨a, b, c⟩ ≤ pl (if m = mTi then ⟨a, b, 99⟩ else if 0 < a then ⟨a, 99, 99⟩ else if 0 < b then ⟨0, b, 99⟩ else ⟨a, b, c⟩)
    by_cases c1 : m = mTi
    · rw [if_pos c1]; unfold pl; simp only; omega
    · rw [if_neg c1]
      by_cases c2 : 0 < a
      · rw [if_pos c2]; unfold pl; simp only; omega
      · rw [if_neg c2]
        by_cases c3 : 0 < b
        · rw [if_pos c3]; unfold pl; simp only; omega
        · rw [if_neg c3]; exact Int.le_refl _
theorem join_one {p : Pr} (h : p.1 ≤ p.2) : join (srt [p]) = [p] := by
  have e : srt [p] = [p] := by
    have := srt_perm [p]
    exact List.perm_singleton.mp this
  rw [e]
  unfold join
  simp [jstep, h]
end G

set_option maxHeartbeats 1000000
/-! bound_range of any text -/
namespace G
open PySem Dt Dm Dk Rn
open L2 (atI ixN)
open PySem.W (Datum DatumOrd Tup T3 T4)
open TL (tl spl numL pre)
theorem place_eq {e : Ed} (h : EdR e) : ev1 F_place_of (Datum.toD e) = some (.int (pl e)) := by
  have h1 := pl_rng h
  have := place_of_at (pl e) (by omega) (by omega)
  rw [at_pl h] at this
  exact this
theorem place_last : ev1 F_place_of k_LAST = some (.int 999999) := place_of_at 999999 (by omega) (by omega)
theorem cut_len (z : Str) (k : Nat) : (L2.cutS z (some (k : Int)) none).length ≤ z.length := by
  rw [TL.len_tl, TL.len_tl, cut_tl, List.length_drop]
  omega
theorem marks_run (w : Str) : S_bound_range_0 [.imm (.str w), .un, .un, .un, .un, .un, .un] = .nx [.imm (.str w), .imm (.list ((marks7.filter fun m => Txt.startswith w m).map .str)), .un, .un, .un, .un, .un] := by
  have hc := comp_map (vs := [2]) (g := gN 2) (t := bOf (eM1 gStarts (eV 0) (eV 2))) (e := eV 2) (ss := [.imm (.str w), .un, .un, .un, .un, .un, .un]) (fun m : Str => (.str m : D)) (fun m => Txt.startswith w m) (fun m => .str m) marks7 fun m hm => by
    unfold turnF
    cases hs : Txt.startswith w m <;> simp [lend, lendS, unlend, unlendS, wipeS, gStarts, hs]
  have e : (marks7.map fun m => (.str m : D)) = [.str mLe, .str mGe, .str mLt, .str mGt, .str mEq, .str mTi, .str mHa] := rfl
  rw [e] at hc
  have hl : (marks7.filter fun m => Txt.startswith w m).length ≤ 16777216 := by
    exact Nat.le_trans (List.length_filter_le _ _) (by decide)
  simp [wipeS, hc, hl, backS, backF, keepS]
theorem sp5_run (p : Int) (v : Sl) (x : D) (m : Str) (q : D) (hp : 0 ≤ p ∧ p ≤ 999999) : S_bound_range_7 [.imm x, v, .imm (.str m), .imm q, .imm (.int p), .imm (.int 999999), .un] = .nx [.imm x, v, .imm (.str m), .imm q, .imm (.int p), .imm (.int 999999), .imm (.dict ((sp5 p).map (enc2 (fun x : Str => (.str x : D)) fun q : Pr => Datum.toD q)))] := by
  have h : ∀ a b : Str, kEq (.str a) (.str b) = decide (a = b) := kenc_str
  have n1 : mLe ≠ mGe := by decide +kernel
  have n2 : mLe ≠ mLt := by decide +kernel
  have n3 : mLe ≠ mGt := by decide +kernel
  have n4 : mLe ≠ mEq := by decide +kernel
  have n5 : mGe ≠ mLt := by decide +kernel
  have n6 : mGe ≠ mGt := by decide +kernel
  have n7 : mGe ≠ mEq := by decide +kernel
  have n8 : mLt ≠ mGt := by decide +kernel
  have n9 : mLt ≠ mEq := by decide +kernel
  have n0 : mGt ≠ mEq := by decide +kernel
  have i1 : small (p - 1) = true := by simp [small]; omega
  have i2 : small (p + 1) = true := by simp [small]; omega
  simp [nDsp, pairsF, keysOk, dputs, dput, h, n1, n2, n3, n4, n5, n6, n7, n8, n9, n0, enc2, sp5, sp_D]
theorem in_two (m : Str) : dIn (.str m) (.tuple [.str mTi, .str mHa]) = some (.bool (decide (m = mTi ∨ m = mHa))) := by
  have := in_dat_t m [mTi, mHa]
  refine this.trans ?_
  simp
theorem m7 {w m : Str} {r : List Str} (h : (marks7.filter fun m => Txt.startswith w m) = m :: r) : m ∈ marks7 := (List.mem_filter.mp (h ▸ List.mem_cons_self)).1
theorem tget5 (p : Int) {m : Str} (h : m ∈ marks7) (hn : ¬(m = mTi ∨ m = mHa)) : ∃ q, tget (sp5 p) m = some q := by
  unfold marks7 at h
  simp only [List.mem_cons, List.not_mem_nil, or_false] at h
  rcases h with rfl | rfl | rfl | rfl | rfl | h | h
  · exact ⟨_, rfl⟩
  · exact ⟨_, rfl⟩
  · exact ⟨_, rfl⟩
  · exact ⟨_, rfl⟩
  · exact ⟨_, rfl⟩
  · exact absurd (.inl h) hn
  · exact absurd (.inr h) hn
theorem sp_0 (q : Pr) : dIx (Datum.toD q) (.int 0) = some (.int q.1) := rfl
theorem sp_1 (q : Pr) : dIx (Datum.toD q) (.int 1) = some (.int q.2) := rfl
theorem bound_eq (w : Str) (hw : w.length ≤ 1000000) : ev1 F_bound_range (.str w) = some (optR (bnd w)) := by
  unfold F_bound_range
  rw [q_ev1]
  unfold B_bound_range bnd mrk
  have h0 := marks_run w
  generalize hf : (marks7.filter fun m => Txt.startswith w m) = fs at h0
  cases fs with
  | nil =>
    have e1 : dEq (.list []) (.list []) = some (.bool true) := (eq_dat ([] : List Str) ([] : List Str)).trans (by simp)
    simp [h0, optR, -q_sAsg, e1]
  | cons m r =>
    have hm := m7 hf
    have e1 : dEq (.list ((m :: r).map .str)) (.list []) = some (.bool false) := (eq_dat (m :: r) ([] : List Str)).trans (by simp)
    have e2 : dIx (.list ((m :: r).map .str)) (.int 0) = some (.str m) := by simp [dIx, atI, ixN]
    have e3 := sl_str w m.length (by omega)
    have e4 := read_edition_eq (L2.cutS w (some (m.length : Int)) none) (Nat.le_trans (cut_len w _) hw)
    obtain ⟨e5, e6⟩ := rdE_rd (L2.cutS w (some (m.length : Int)) none)
    rw [e5] at e4
    have s0 : ∀ T : FS, (sSeq S_bound_range_1 (sSeq S_bound_range_2 (sSeq S_bound_range_3 T))) [.imm (.str w), .imm (.list ((m :: r).map .str)), .un, .un, .un, .un, .un] = T [.imm (.str w), .imm (.list ((m :: r).map .str)), .imm (.str m), .imm (optE (rdE (L2.cutS w (some (m.length : Int)) none))), .un, .un, .un] := fun T => by
      have hl : m.length ≤ 16777216 := by
        have := m7 hf
        unfold marks7 at this
        simp only [List.mem_cons, List.not_mem_nil, or_false] at this
        rcases this with rfl | rfl | rfl | rfl | rfl | rfl | rfl <;> decide
      have hg : gLen [.str m] = some (.int m.length) := if_pos hl
      rw [List.map_cons] at e1 e2 ⊢
      simp [e1, e2, e3, e4, hg]
    simp only [List.head?_cons]
    have e0 : (Sl.imm (.str w) :: List.replicate (7 - 1) Sl.un) = [.imm (.str w), .un, .un, .un, .un, .un, .un] := rfl
    rw [e0, q_sSeq, h0, q_then_nx, s0]
    cases hr : rdE (L2.cutS w (some (m.length : Int)) none) with
    | none =>
      have hn : dIsN .none .none = some (.bool true) := rfl
      simp [optR, optE, hn]
    | some e =>
      have he := e6 e hr
      have e7 := place_eq he
      have e8 := place_last
      obtain ⟨e9, t1, t2⟩ := top_ok (m := m) he
      have hn : dIsN (Datum.toD e) .none = some (.bool false) := rfl
      have hi := in_two m
      have hp := pl_rng he
      have hs := sp5_run (pl e) (.imm (.list ((m :: r).map .str))) (.str w) m (Datum.toD e) hp
      simp only [optE]
      unfold spanP
      by_cases c : m = mTi ∨ m = mHa
      · rw [if_pos c]
        rw [decide_eq_true c] at hi
        have o : optR (some [(pl e, pl (topE m e))]) = .tuple [.tuple [Datum.toD e, Datum.toD (topE m e)]] := by
          show ra _ = _
          rw [ra1, at_pl he, at_pl t1]
        rw [o]
        simp [sPar, hn, e7, e8, hi, e9]
      · rw [if_neg c]
        rw [decide_eq_false c] at hi
        obtain ⟨q, hq⟩ := tget5 (pl e) hm c
        have hd := dix_str (fun q : Pr => (Datum.toD q : D)) (sp5 (pl e)) m
        rw [hq] at hd
        simp only [Option.map_some] at hd
        rw [hq]
        simp only
        have z0 := sp_0 q
        have z1 := sp_1 q
        have jo := joined_eq [q] (by simp)
        have s5 : ∀ T : FS, (sSeq S_bound_range_4 (sSeq S_bound_range_5 (sSeq S_bound_range_6 T))) [.imm (.str w), .imm (.list ((m :: r).map .str)), .imm (.str m), .imm (Datum.toD e), .un, .un, .un] = T [.imm (.str w), .imm (.list ((m :: r).map .str)), .imm (.str m), .imm (Datum.toD e), .imm (.int (pl e)), .imm (.int 999999), .un] := fun T => by
          simp [sPar, hn, e7, e8, hi]
        rw [s5, q_sSeq, hs, q_then_nx]
        by_cases cq : q.1 ≤ q.2
        · rw [join_one cq] at jo
          rw [if_pos cq]
          have jo : ev1 F_joined (.list [Datum.toD q]) = some (ra [q]) := jo
          simp [hd, z0, z1, cq, jo, optR]
        · rw [if_neg cq]
          have o : optR (some []) = k_NONE := rfl
          simp [hd, z0, z1, cq, o]
end G

set_option maxHeartbeats 1000000
/-! part_range of any text; read_range of what reads -/
namespace G
open PySem Dt Dm Dk Rn
open L2 (atI ixN)
open PySem.W (Datum DatumOrd Tup T3 T4)
open TL (tl spl numL pre)
theorem bnd_rg {w : Str} {ps : List Pr} (h : bnd w = some ps) : Rg 1 ps := by
  unfold bnd at h
  cases hm : mrk w with
  | none => rw [hm] at h; cases h
  | some m =>
    rw [hm] at h
    simp only at h
    obtain ⟨_, e6⟩ := rdE_rd (L2.cutS w (some (m.length : Int)) none)
    cases hr : rdE (L2.cutS w (some (m.length : Int)) none) with
    | none => rw [hr] at h; cases h
    | some e =>
      rw [hr] at h
      cases h
      have he := e6 e hr
      have h1 := pl_rng he
      obtain ⟨_, t1, t2⟩ := top_ok (m := m) he
      have h2 := pl_rng t1
      have one : ∀ a b : Int, 0 ≤ a → a ≤ b → b ≤ 999999 → Rg 1 [(a, b)] := fun a b x y z => ⟨⟨x, y, z, trivial⟩, by simp⟩
      unfold spanP
      split
      · exact one _ _ h1.1 t2 h2.2
      · split
        · rename_i q hq
          have hq := tget_mem hq
          unfold sp5 at hq
          split
          · rename_i hle
            simp only [List.mem_cons, List.not_mem_nil, or_false, Prod.mk.injEq] at hq
            obtain ⟨q1, q2⟩ := q
            simp only [Prod.mk.injEq] at hq hle ⊢
            apply one <;> omega
          · exact ⟨trivial, by simp⟩
        · exact ⟨trivial, by simp⟩
abbrev noneS : Str := Str.ofString "none"
abbrev anyS : Str := Str.ofString "any"
abbrev wds (x : Str) : List Str := Txt.split x (Str.ofString " ")
def bnds (x : Str) : Option (List (List Pr)) := if x = noneS then some [[]] else if x = anyS then some [] else
  if (wds x).length ≤ 4 ∧ ((wds x).all fun w => (bnd w).isSome) = true then some ((wds x).map fun w => (bnd w).getD []) else none
theorem spc_tl : tl (Str.ofString " ") = [32] := TL.tl_ofString _
theorem wds_len (x : Str) : (∀ w ∈ wds x, w.length ≤ x.length) ∧ (wds x).length ≤ x.length + 1 := by
  have e := TL.split_spl x (Str.ofString " ") (by rw [spc_tl]; simp) (TL.kind_ok (by decide +kernel))
  rw [spc_tl] at e
  obtain ⟨k1, k2⟩ := spl_len 32 (tl x) []
  rw [← e] at k1 k2
  refine ⟨fun w hw => ?_, ?_⟩
  · have := k1 (tl w) (List.mem_map_of_mem hw)
    rw [TL.len_tl, TL.len_tl]
    simpa using this
  · rw [TL.len_tl]
    simpa using k2
theorem wsplit (x : Str) (h : x.length ≤ 1000000) : gSplit x (.str (Str.ofString " ")) = some (.lst ((wds x).map .str)) := by
  unfold gSplit
  simp only
  rw [if_pos ⟨rfl, by show x.length + 2 ≤ 16777216; omega⟩]
theorem none_inR (ws : List (Option (List Pr))) : (ws.map optR).any (fun y => PyData.eqv y .none) = !(ws.all fun w => w.isSome) := by
  induction ws with
  | nil => rfl
  | cons w ws ih =>
    rw [List.map_cons, List.any_cons, List.all_cons, ih]
    cases w with
    | none => rfl
    | some ps => rw [optR, ra_eq]; simp [PyData.eqv]
theorem optR_plain (ws : List (Option (List Pr))) : PyData.plainAll (ws.map optR) = true := by
  induction ws with
  | nil => rfl
  | cons w ws ih =>
    rw [List.map_cons]
    unfold PyData.plainAll
    rw [ih]
    cases w with
    | none => rfl
    | some ps => rw [optR]; unfold ra; rw [Datum.plain]; rfl
theorem in_noneR (ws : List (Option (List Pr))) : dIn .none (.list (ws.map optR)) = some (.bool (!(ws.all fun w => w.isSome))) := by
  unfold dIn inB
  simp only
  rw [if_pos ⟨rfl, optR_plain ws, Nat.le_trans (Nat.min_le_right _ _) (Nat.zero_le _)⟩, none_inR]
  rfl
def RB (x : D) (bs rest : List (List Pr)) (ss : SS) : Prop := (∃ c u, ss = [.imm x, .imm (.list (bs.map ra)), .imm (ra c), u, .un] ∧ Rg 1 c ∧ ∀ p, (Mem c p ∧ ∀ b ∈ rest, Mem b p) ↔ (0 ≤ p ∧ p ≤ 999999) ∧ ∀ b ∈ bs, Mem b p) ∧ ∀ b ∈ rest, Rg 1 b
theorem mem_any (p : Int) : Mem [(0, 999999)] p ↔ 0 ≤ p ∧ p ≤ 999999 := by simp [Mem]
theorem part_ok (x : Str) (hx : x.length ≤ 1000000) : match bnds x with
    | none => ev1 F_part_range (.str x) = some .none
    | some bs => ∃ c, ev1 F_part_range (.str x) = some (ra c) ∧ Rg 1 c ∧ ∀ p, Mem c p ↔ (0 ≤ p ∧ p ≤ 999999) ∧ ∀ b ∈ bs, Mem b p := by
  unfold F_part_range
  simp only [q_ev1]
  unfold B_part_range bnds
  have hi : dIn (.str x) (.tuple [.str noneS, .str anyS]) = some (.bool (decide (x = noneS ∨ x = anyS))) := (in_dat_t x [noneS, anyS]).trans (by simp)
  have en := eq_str x noneS
  by_cases c1 : x = noneS
  · rw [if_pos c1]
    rw [decide_eq_true (.inl c1)] at hi
    rw [decide_eq_true c1] at en
    refine ⟨[], ?_, ⟨trivial, by simp⟩, fun p => ⟨fun h => absurd h mem_nil, fun h => h.2 [] List.mem_cons_self⟩⟩
    have o : ra [] = k_NONE := rfl
    rw [o]
    simp [hi, en]
  · rw [if_neg c1]
    rw [decide_eq_false c1] at en
    by_cases c2 : x = anyS
    · rw [if_pos c2]
      rw [decide_eq_true (.inr c2)] at hi
      refine ⟨[(0, 999999)], ?_, ⟨⟨by omega, by omega, by omega, trivial⟩, by simp⟩, fun p => by rw [mem_any]; simp⟩
      have o : ra [(0, 999999)] = k_ANY := rfl
      rw [o]
      simp [hi, en]
    · rw [if_neg c2]
      have c3 : ¬(x = noneS ∨ x = anyS) := fun h => h.elim c1 c2
      rw [decide_eq_false c3] at hi
      obtain ⟨k1, k2⟩ := wds_len x
      have hs := wsplit x hx
      generalize wds x = ws at *
      have hc := comp_map (vs := [4]) (g := gN 4) (t := bYes) (e := eCall F_bound_range (aCons (eV 4) aNil)) (ss := [.imm (.str x), .un, .un, .un, .un]) (fun w : Str => (.str w : D)) (fun _ => true) (fun w => optR (bnd w)) ws fun w hw => by
        have := bound_eq w (Nat.le_trans (k1 w hw) hx)
        unfold turnF
        simp [lend, lendS, unlend, unlendS, wipeS, this]
      have hf : ws.filter (fun _ => true) = ws := List.filter_eq_self.mpr fun _ _ => rfl
      rw [hf] at hc
      have hlw : ws.length ≤ 16777216 := by omega
      have hn := in_noneR (ws.map bnd)
      rw [List.map_map] at hn
      have hcc : (optR ∘ bnd) = fun w => optR (bnd w) := rfl
      rw [hcc] at hn
      have s0 : ∀ T : FS, (sSeq S_part_range_0 (sSeq S_part_range_1 T)) [.imm (.str x), .un, .un, .un, .un] = T [.imm (.str x), .imm (.list (ws.map fun w => optR (bnd w))), .un, .un, .un] := fun T => by
        simp [hi, hs, wipeS, hc, hlw, backS, backF, keepS]
      have e0 : (Sl.imm (.str x) :: List.replicate (5 - 1) Sl.un) = [.imm (.str x), .un, .un, .un, .un] := rfl
      rw [e0, s0]
      have ha : ((ws.map bnd).all fun w => w.isSome) = ws.all fun w => (bnd w).isSome := by rw [List.all_map]; rfl
      rw [ha] at hn
      cases hv : ws.all fun w => (bnd w).isSome with
      | false =>
        rw [hv] at hn
        simp [hn]
      | true =>
        rw [hv] at hn
        by_cases h4 : ws.length ≤ 4
        · rw [if_pos ⟨h4, rfl⟩]
          simp only
          have eb : (ws.map fun w => optR (bnd w)) = (ws.map fun w => (bnd w).getD []).map ra := by
            rw [List.map_map]
            refine List.map_congr_left fun w hw => ?_
            have := List.all_eq_true.mp hv w hw
            cases e : bnd w with
            | none => rw [e] at this; cases this
            | some ps => simp [optR, e]
          have hR : ∀ b ∈ ws.map (fun w => (bnd w).getD []), Rg 1 b := fun b hb => by
            obtain ⟨w, hw, rfl⟩ := List.mem_map.mp hb
            have := List.all_eq_true.mp hv w hw
            cases e : bnd w with
            | none => rw [e] at this; cases this
            | some ps => exact bnd_rg e
          have hlb : (ws.map fun w => (bnd w).getD []).length ≤ 4 := by rw [List.length_map]; exact h4
          rw [eb] at hn ⊢
          generalize (ws.map fun w => (bnd w).getD []) = bs at *
          have h44 : ¬((4 : Int) < bs.length) := by omega
          have s2 : ∀ T : FS, (sSeq S_part_range_2 (sSeq S_part_range_3 T)) [.imm (.str x), .imm (.list (bs.map ra)), .un, .un, .un] = T [.imm (.str x), .imm (.list (bs.map ra)), .imm (ra [(0, 999999)]), .un, .un] := fun T => by
            have o : k_ANY = ra [(0, 999999)] := rfl
            simp [hn, k_MOST_BOUNDS, h44, o]
          rw [s2]
          have hit : itemsOf (.list (bs.map ra)) = some (bs.map ra) := rfl
          obtain ⟨s2, hl, ⟨c, u, rfl, hr, hm⟩, _⟩ := loop_invE (g := gN 3) (b := S_part_range_4_0) (enc := ra) (xs := bs) (ss := [.imm (.str x), .imm (.list (bs.map ra)), .imm (ra [(0, 999999)]), .un, .un]) rfl (RB (.str x) bs)
            ⟨⟨_, _, rfl, ⟨⟨by omega, by omega, by omega, trivial⟩, by simp⟩, fun p => by rw [mem_any]⟩, hR⟩ fun b r ss hR => by
              obtain ⟨⟨c, u, rfl, hr, hm⟩, hb⟩ := hR
              obtain ⟨c', e1, e2, e3⟩ := both_ok hr (hb b List.mem_cons_self) (by omega) (by omega)
              refine ⟨_, _, rfl, .inl (by simp [e1]; rfl), ⟨_, _, rfl, e2, fun p => ?_⟩, fun q hq => hb q (List.mem_cons_of_mem _ hq)⟩
              rw [← hm p, e3]
              simp [and_assoc]
          refine ⟨c, ?_, hr, fun p => ?_⟩
          · rw [q_sSeq]
            have : S_part_range_4 [.imm (.str x), .imm (.list (bs.map ra)), .imm (ra [(0, 999999)]), .un, .un] = .nx [.imm (.str x), .imm (.list (bs.map ra)), .imm (ra c), u, .un] := by
              rw [← hl]; simp [hit]
            rw [this]
            simp
          · have := hm p
            simpa using this
        · rw [if_neg fun h => h4 h.1]
          have h44 : (4 : Int) < ws.length := by omega
          simp [hn, k_MOST_BOUNDS, h44]
end G

set_option maxHeartbeats 1000000
/-! texts of bounds: what they read as -/
namespace G
open PySem Dt Dm Dk Rn
open L2 (atI ixN)
open PySem.W (Datum DatumOrd Tup T3 T4)
open TL (tl spl numL pre joinL)
def tE (e : Ed) : Str := txt e.a e.b e.c
theorem tl_tE {e : Ed} (h : EdR e) : tl (tE e) = numL e.a.toNat ++ (46 :: (numL e.b.toNat ++ (46 :: numL e.c.toNat))) := by
  unfold tE
  rw [← txt_eq]
  have e0 : tl Str.empty = [] := rfl
  simp only [TL.tl_append, e0, dot_tl, sn_tl h.1.1, sn_tl h.2.1.1, sn_tl h.2.2.1]
  simp
theorem tE_free {e : Ed} (h : EdR e) {k : Nat} (h1 : k < 48 ∨ 57 < k) (h2 : k ≠ 46) : k ∉ tl (tE e) := by
  rw [tl_tE h]
  simp only [List.mem_append, List.mem_cons, not_or]
  exact ⟨TL.numL_free h1, h2, TL.numL_free h1, h2, TL.numL_free h1⟩
theorem tE_head {e : Ed} (h : EdR e) : ∃ c r, tl (tE e) = c :: r ∧ 48 ≤ c ∧ c ≤ 57 := by
  rw [tl_tE h]
  have hn := TL.numL_ne e.a.toNat
  have hd := TL.numL_digits e.a.toNat
  cases hh : numL e.a.toNat with
  | nil => exact absurd hh hn
  | cons c r =>
    rw [hh] at hd
    have := hd c List.mem_cons_self
    exact ⟨c, _, rfl, this.1, this.2⟩
theorem tE_len {e : Ed} (h : EdR e) : (tE e).length ≤ 8 := txt_len h.1 h.2.1 h.2.2
theorem rdE_tE {e : Ed} (h : EdR e) : rdE (tE e) = some e := by
  unfold rdE tE
  rw [read_txt h.1 h.2.1 h.2.2, ed_D]
theorem show_ed {e : Ed} (h : EdR e) : ev1 F_show_edition (Datum.toD e) = some (.str (tE e)) := show_edition_eq h.1 h.2.1 h.2.2
def bt (w : Str × Ed) : Str := w.1 ++ tE w.2
theorem bt_tl (w : Str × Ed) : tl (bt w) = tl w.1 ++ tl (tE w.2) := TL.tl_append _ _
theorem m_tl : tl mLe = [60, 61] ∧ tl mGe = [62, 61] ∧ tl mLt = [60] ∧ tl mGt = [62] ∧ tl mEq = [61] ∧ tl mTi = [126] ∧ tl mHa = [94] := ⟨TL.tl_ofString _, TL.tl_ofString _, TL.tl_ofString _, TL.tl_ofString _, TL.tl_ofString _, TL.tl_ofString _, TL.tl_ofString _⟩
theorem m_cases {m : Str} (h : m ∈ marks7) : m = mLe ∨ m = mGe ∨ m = mLt ∨ m = mGt ∨ m = mEq ∨ m = mTi ∨ m = mHa := by
  unfold marks7 at h
  simpa using h
theorem mrk_bt {w : Str × Ed} (hm : w.1 ∈ marks7) (he : EdR w.2) : mrk (bt w) = some w.1 := by
  obtain ⟨m, e⟩ := w
  simp only at hm he
  obtain ⟨c, r, hc, c1, c2⟩ := tE_head he
  obtain ⟨t1, t2, t3, t4, t5, t6, t7⟩ := m_tl
  have hb := bt_tl (m, e)
  simp only [hc] at hb
  have s : ∀ y : Str, tl y ≠ [] → Txt.startswith (bt (m, e)) y = pre (tl y) (tl m ++ c :: r) := fun y hy => by
    rw [starts_pre _ _ hy, hb]
  have q1 := s mLe (by rw [t1]; simp)
  have q2 := s mGe (by rw [t2]; simp)
  have q3 := s mLt (by rw [t3]; simp)
  have q4 := s mGt (by rw [t4]; simp)
  have q5 := s mEq (by rw [t5]; simp)
  have q6 := s mTi (by rw [t6]; simp)
  have q7 := s mHa (by rw [t7]; simp)
  rw [t1] at q1
  rw [t2] at q2
  rw [t3] at q3
  rw [t4] at q4
  rw [t5] at q5
  rw [t6] at q6
  rw [t7] at q7
  have n61 : (c == 61) = false := by rw [beq_eq_false_iff_ne]; omega
  have n61' : ¬c = 61 := by omega
  unfold mrk marks7
  rcases m_cases hm with rfl | rfl | rfl | rfl | rfl | rfl | rfl
  · rw [t1] at q1; simp [List.filter, q1, pre]
  · rw [t2] at q1 q2; simp [List.filter, q1, q2, pre]
  · rw [t3] at q1 q2 q3; simp [List.filter, q1, q2, q3, pre, n61, n61']
  · rw [t4] at q1 q2 q3 q4; simp [List.filter, q1, q2, q3, q4, pre, n61, n61']
  · rw [t5] at q1 q2 q3 q4 q5; simp [List.filter, q1, q2, q3, q4, q5, pre]
  · rw [t6] at q1 q2 q3 q4 q5 q6; simp [List.filter, q1, q2, q3, q4, q5, q6, pre]
  · rw [t7] at q1 q2 q3 q4 q5 q6 q7; simp [List.filter, q1, q2, q3, q4, q5, q6, q7, pre]
theorem bnd_bt {w : Str × Ed} (hm : w.1 ∈ marks7) (he : EdR w.2) : bnd (bt w) = some (spanP w.1 w.2) := by
  unfold bnd
  rw [mrk_bt hm he]
  have e : L2.cutS (bt w) (some (w.1.length : Int)) none = tE w.2 := by
    apply TL.ext_tl
    rw [cut_tl, bt_tl, TL.len_tl, List.drop_left]
  simp only
  rw [e, rdE_tE he]
theorem bt_free {w : Str × Ed} (hm : w.1 ∈ marks7) (he : EdR w.2) : 32 ∉ tl (bt w) ∧ 124 ∉ tl (bt w) := by
  obtain ⟨t1, t2, t3, t4, t5, t6, t7⟩ := m_tl
  rw [bt_tl]
  simp only [List.mem_append, not_or]
  refine ⟨⟨?_, tE_free he (by omega) (by omega)⟩, ⟨?_, tE_free he (by omega) (by omega)⟩⟩ <;>
    (rcases m_cases hm with h | h | h | h | h | h | h <;> rw [h] <;> simp [t1, t2, t3, t4, t5, t6, t7])
theorem bt_len {w : Str × Ed} (hm : w.1 ∈ marks7) (he : EdR w.2) : (bt w).length ≤ 10 := by
  obtain ⟨t1, t2, t3, t4, t5, t6, t7⟩ := m_tl
  have h8 := tE_len he
  rw [TL.len_tl] at h8
  rw [TL.len_tl, bt_tl, List.length_append]
  have : (tl w.1).length ≤ 2 := by
    rcases m_cases hm with h | h | h | h | h | h | h <;> rw [h] <;> simp [t1, t2, t3, t4, t5, t6, t7]
  omega
def bts (ws : List (Str × Ed)) : Str := Txt.join (Str.ofString " ") (ws.map bt)
theorem bts_tl (ws : List (Str × Ed)) : tl (bts ws) = joinL [32] (ws.map fun w => tl (bt w)) := by
  unfold bts
  rw [TL.join_eq, TL.tl_join, spc_tl, List.map_map]
  rfl
theorem joinL_cons (S p : List Nat) (ps : List (List Nat)) : ∃ r, joinL S (p :: ps) = p ++ r := by
  cases ps with
  | nil => exact ⟨[], (List.append_nil _).symm⟩
  | cons q r => exact ⟨_, rfl⟩
def GW (ws : List (Str × Ed)) : Prop := ws ≠ [] ∧ ws.length ≤ 4 ∧ ∀ w ∈ ws, w.1 ∈ marks7 ∧ EdR w.2
theorem bts_ne {ws : List (Str × Ed)} (h : GW ws) : bts ws ≠ noneS ∧ bts ws ≠ anyS := by
  obtain ⟨h1, _, h3⟩ := h
  obtain ⟨t1, t2, t3, t4, t5, t6, t7⟩ := m_tl
  have n1 : tl noneS = [110, 111, 110, 101] := TL.tl_ofString _
  have n2 : tl anyS = [97, 110, 121] := TL.tl_ofString _
  cases ws with
  | nil => exact absurd rfl h1
  | cons w r =>
    have e := bts_tl (w :: r)
    rw [List.map_cons] at e
    obtain ⟨q, hq⟩ := joinL_cons [32] (tl (bt w)) (r.map fun w => tl (bt w))
    rw [hq, bt_tl] at e
    have hm := (h3 w List.mem_cons_self).1
    constructor
    all_goals
      intro z
      rw [z] at e
      first | rw [n1] at e | rw [n2] at e
      rcases m_cases hm with h | h | h | h | h | h | h <;> rw [h] at e <;> simp [t1, t2, t3, t4, t5, t6, t7] at e
theorem bts_split {ws : List (Str × Ed)} (h : GW ws) : wds (bts ws) = ws.map bt := by
  unfold wds bts
  refine TL.split_join spc_tl (by decide +kernel) (by simpa using h.1) fun p hp => ?_
  obtain ⟨w, hw, rfl⟩ := List.mem_map.mp hp
  exact (bt_free (h.2.2 w hw).1 (h.2.2 w hw).2).1
theorem bnds_bts {ws : List (Str × Ed)} (h : GW ws) : bnds (bts ws) = some (ws.map fun w => spanP w.1 w.2) := by
  obtain ⟨n1, n2⟩ := bts_ne h
  unfold bnds
  rw [if_neg n1, if_neg n2, bts_split h, if_pos ⟨by rw [List.length_map]; exact h.2.1, by
    rw [List.all_map, List.all_eq_true]
    intro w hw
    show (bnd (bt w)).isSome = true
    rw [bnd_bt (h.2.2 w hw).1 (h.2.2 w hw).2]; rfl⟩, List.map_map]
  congr 1
  refine List.map_congr_left fun w hw => ?_
  show (bnd (bt w)).getD [] = _
  rw [bnd_bt (h.2.2 w hw).1 (h.2.2 w hw).2]; rfl
theorem joinL_free {k : Nat} {S : List Nat} (hS : k ∉ S) : ∀ {ps : List (List Nat)}, (∀ p ∈ ps, k ∉ p) → k ∉ joinL S ps
  | [], _ => by simp [joinL]
  | [p], h => h p (by simp)
  | p :: q :: r, h => by
    show k ∉ p ++ (S ++ joinL S (q :: r))
    simp only [List.mem_append, not_or]
    exact ⟨h p (by simp), hS, joinL_free hS fun x hx => h x (List.mem_cons_of_mem _ hx)⟩
theorem bts_free {ws : List (Str × Ed)} (h : GW ws) : 124 ∉ tl (bts ws) := by
  rw [bts_tl]
  refine joinL_free (by simp) fun p hp => ?_
  obtain ⟨w, hw, rfl⟩ := List.mem_map.mp hp
  exact (bt_free (h.2.2 w hw).1 (h.2.2 w hw).2).2
theorem joinL_len {S : List Nat} {B : Nat} : ∀ {ps : List (List Nat)}, (∀ p ∈ ps, p.length ≤ B) → (joinL S ps).length ≤ ps.length * (B + S.length)
  | [], _ => by simp [joinL]
  | [p], h => by
    have := h p (by simp)
    show p.length ≤ 1 * (B + S.length)
    omega
  | p :: q :: r, h => by
    have h1 := h p (by simp)
    have h2 := joinL_len (S := S) (B := B) (ps := q :: r) fun x hx => h x (List.mem_cons_of_mem _ hx)
    show (p ++ (S ++ joinL S (q :: r))).length ≤ _
    rw [List.length_append, List.length_append, List.length_cons (a := p), Nat.add_mul]
    omega
theorem bts_len {ws : List (Str × Ed)} (h : GW ws) : (bts ws).length ≤ 44 := by
  rw [TL.len_tl, bts_tl]
  have := joinL_len (S := [32]) (B := 10) (ps := ws.map fun w => tl (bt w)) fun p hp => by
    obtain ⟨w, hw, rfl⟩ := List.mem_map.mp hp
    rw [← TL.len_tl]
    exact bt_len (h.2.2 w hw).1 (h.2.2 w hw).2
  rw [List.length_map] at this
  have := h.2.1
  simp only [List.length_singleton] at *
  omega
theorem part_bts {ws : List (Str × Ed)} (h : GW ws) : ∃ c, ev1 F_part_range (.str (bts ws)) = some (ra c) ∧ Rg 1 c ∧ ∀ p, Mem c p ↔ (0 ≤ p ∧ p ≤ 999999) ∧ ∀ w ∈ ws, Mem (spanP w.1 w.2) p := by
  have := part_ok (bts ws) (by have := bts_len h; omega)
  rw [bnds_bts h] at this
  simp only at this
  obtain ⟨c, h1, h2, h3⟩ := this
  exact ⟨c, h1, h2, fun p => by rw [h3, List.forall_mem_map]⟩
end G

set_option maxHeartbeats 1000000
/-! show_range: its text; read_range of what reads -/
namespace G
open PySem Dt Dm Dk Rn
open L2 (atI ixN)
open PySem.W (Datum DatumOrd Tup T3 T4)
open TL (tl spl numL pre joinL)
abbrev barS : Str := Str.ofString " | "
theorem bar_tl : tl barS = [32, 124, 32] := TL.tl_ofString _
def R9 (p : Pr) : Prop := 0 ≤ p.1 ∧ p.1 ≤ p.2 ∧ p.2 ≤ 999999
theorem at_EdR {x : Int} (h0 : 0 ≤ x) (h1 : x ≤ 999999) : EdR (at_ x) := by
  unfold EdR at_
  simp only
  omega
theorem pl_at (x : Int) : pl (at_ x) = x := by
  unfold pl at_
  simp only
  omega
def stW (p : Pr) : List (Str × Ed) := if p.1 = p.2 then [(mEq, at_ p.1)] else if p.1 = 0 then [(mLe, at_ p.2)] else if p.2 = 999999 then [(mGe, at_ p.1)] else [(mGe, at_ p.1), (mLe, at_ p.2)]
theorem stW_good {p : Pr} (h : R9 p) : GW (stW p) := by
  obtain ⟨h1, h2, h3⟩ := h
  have a := at_EdR h1 (by omega)
  have b := at_EdR (x := p.2) (by omega) h3
  unfold stW GW
  split
  · exact ⟨by simp, by simp, fun w hw => by rw [List.mem_singleton.mp hw]; exact ⟨by simp [marks7], a⟩⟩
  · split
    · exact ⟨by simp, by simp, fun w hw => by rw [List.mem_singleton.mp hw]; exact ⟨by simp [marks7], b⟩⟩
    · split
      · exact ⟨by simp, by simp, fun w hw => by rw [List.mem_singleton.mp hw]; exact ⟨by simp [marks7], a⟩⟩
      · refine ⟨by simp, by simp, fun w hw => ?_⟩
        rcases List.mem_cons.mp hw with rfl | hw
        · exact ⟨by simp [marks7], a⟩
        · rw [List.mem_singleton.mp hw]
          exact ⟨by simp [marks7], b⟩
theorem sp_five (e : Ed) : spanP mLe e = (if 0 ≤ pl e then [(0, pl e)] else []) ∧ spanP mGe e = (if pl e ≤ 999999 then [(pl e, 999999)] else []) ∧ spanP mLt e = (if 0 ≤ pl e - 1 then [(0, pl e - 1)] else []) ∧ spanP mGt e = (if pl e + 1 ≤ 999999 then [(pl e + 1, 999999)] else []) ∧ spanP mEq e = [(pl e, pl e)] := by
  obtain ⟨_, n1, n2, n3, n4, n5⟩ := m_ne
  unfold spanP
  simp only [n1, n2, n3, n4, n5, if_false]
  refine ⟨rfl, rfl, rfl, rfl, ?_⟩
  show (if pl e ≤ pl e then [(pl e, pl e)] else []) = _
  rw [if_pos (Int.le_refl _)]
theorem mem_one (a b x : Int) : Mem [(a, b)] x ↔ a ≤ x ∧ x ≤ b := by simp [Mem]
theorem stW_mem {p : Pr} (h : R9 p) (x : Int) : ((0 ≤ x ∧ x ≤ 999999) ∧ ∀ w ∈ stW p, Mem (spanP w.1 w.2) x) ↔ Mem [p] x := by
  obtain ⟨h1, h2, h3⟩ := h
  obtain ⟨a, b⟩ := p
  simp only at h1 h2 h3
  rw [mem_one]
  unfold stW
  simp only
  have f1 := fun y => (sp_five (at_ y)).1
  have f2 := fun y => (sp_five (at_ y)).2.1
  have f5 := fun y => (sp_five (at_ y)).2.2.2.2
  simp only [pl_at] at f1 f2 f5
  split
  · simp only [List.mem_singleton, forall_eq, f5, mem_one]
    omega
  · split
    · simp only [List.mem_singleton, forall_eq, f1]
      rw [if_pos (by omega), mem_one]
      omega
    · split
      · simp only [List.mem_singleton, forall_eq, f2]
        rw [if_pos (by omega), mem_one]
        omega
      · simp only [List.mem_cons, List.not_mem_nil, or_false, forall_eq_or_imp, forall_eq, f1, f2]
        rw [if_pos (by omega), if_pos (by omega), mem_one, mem_one]
        omega
theorem at_eq (p q : Int) : dEq (Datum.toD (at_ p)) (Datum.toD (at_ q)) = some (.bool (decide (p = q))) := by
  rw [eq_dat]
  congr 2
  rw [decide_eq_decide]
  exact ⟨at_inj, fun h => by rw [h]⟩
def stT (p : Pr) : Str := bts (stW p)
theorem show_st {p : Pr} (h : R9 p) : ev2 F_show_stretch (Datum.toD (at_ p.1)) (Datum.toD (at_ p.2)) = some (.str (stT p)) := by
  obtain ⟨h1, h2, h3⟩ := h
  obtain ⟨t1, t2, t3, t4, t5, t6, t7⟩ := m_tl
  have a := at_EdR h1 (by omega)
  have b := at_EdR (x := p.2) (by omega) h3
  have s1 := show_ed a
  have s2 := show_ed b
  have l1 := tE_len a
  have l2 := tE_len b
  have q1 := at_eq p.1 p.2
  have q2 := at_eq p.1 0
  have q3 := at_eq p.2 999999
  rw [at0] at q2
  rw [at9] at q3
  have e0 : Str.empty.length = 0 := rfl
  have e1 : (Str.ofString "=").length = 1 := rfl
  have e2 : (Str.ofString "<=").length = 2 := rfl
  have e3 : (Str.ofString ">=").length = 2 := rfl
  have e4 : (Str.ofString " <=").length = 3 := rfl
  have ee : tl Str.empty = [] := rfl
  have e5 : tl (Str.ofString " <=") = [32, 60, 61] := TL.tl_ofString _
  unfold F_show_stretch
  rw [q_ev2]
  unfold B_show_stretch stT
  by_cases c1 : p.1 = p.2
  · rw [decide_eq_true c1] at q1
    have e : (Str.empty ++ mEq) ++ tE (at_ p.1) = bts (stW p) := by
      apply TL.ext_tl
      unfold stW
      rw [if_pos c1, bts_tl]
      simp [TL.tl_append, ee, joinL, bt_tl]
    simp (disch := omega) [-q_size, -q_nLc, -q_nLc2, -getElem?_pos, -getElem?_neg, List.getElem?_cons_zero, List.getElem?_cons_succ, if_sz, if_sl, if_le, if_lt, if_log, rp_sn, q1, s1, e, e0, e1]
  · rw [decide_eq_false c1] at q1
    by_cases c2 : p.1 = 0
    · rw [decide_eq_true c2] at q2
      have e : (Str.empty ++ mLe) ++ tE (at_ p.2) = bts (stW p) := by
        apply TL.ext_tl
        unfold stW
        rw [if_neg c1, if_pos c2, bts_tl]
        simp [TL.tl_append, ee, joinL, bt_tl]
      simp (disch := omega) [-q_size, -q_nLc, -q_nLc2, -getElem?_pos, -getElem?_neg, List.getElem?_cons_zero, List.getElem?_cons_succ, if_sz, if_sl, if_le, if_lt, if_log, rp_sn, q1, q2, k_FIRST, s2, e, e0, e2]
    · rw [decide_eq_false c2] at q2
      by_cases c3 : p.2 = 999999
      · rw [decide_eq_true c3] at q3
        have e : (Str.empty ++ mGe) ++ tE (at_ p.1) = bts (stW p) := by
          apply TL.ext_tl
          unfold stW
          rw [if_neg c1, if_neg c2, if_pos c3, bts_tl]
          simp [TL.tl_append, ee, joinL, bt_tl]
        simp (disch := omega) [-q_size, -q_nLc, -q_nLc2, -getElem?_pos, -getElem?_neg, List.getElem?_cons_zero, List.getElem?_cons_succ, if_sz, if_sl, if_le, if_lt, if_log, rp_sn, q1, q2, q3, k_FIRST, k_LAST, s1, e, e0, e3]
      · rw [decide_eq_false c3] at q3
        have e : (((Str.empty ++ mGe) ++ tE (at_ p.1)) ++ Str.ofString " <=") ++ tE (at_ p.2) = bts (stW p) := by
          apply TL.ext_tl
          unfold stW
          rw [if_neg c1, if_neg c2, if_neg c3, bts_tl]
          simp [TL.tl_append, ee, joinL, bt_tl, e5, t1, t2]
        simp (disch := omega) [-q_size, -q_nLc, -q_nLc2, -getElem?_pos, -getElem?_neg, List.getElem?_cons_zero, List.getElem?_cons_succ, if_sz, if_sl, if_le, if_lt, if_log, rp_sn, q1, q2, q3, k_FIRST, k_LAST, s1, s2, e, e0, e3, e4]
def prts (ps : List Pr) : List (Str × List Pr) := if ps = [] then [(noneS, [])] else if ps = [(0, 999999)] then [(anyS, [(0, 999999)])] else ps.map fun p => (stT p, [p])
def shR (ps : List Pr) : Str := Txt.join barS ((prts ps).map (·.1))
theorem prts_ne (ps : List Pr) : prts ps ≠ [] := by
  unfold prts
  split
  · simp
  · split
    · simp
    · simpa
theorem prts_len (ps : List Pr) : (prts ps).length ≤ ps.length + 1 := by
  unfold prts
  split
  · simp
  · split
    · simp
    · simp
theorem mk_ra {c : List Pr} {qs : List Pr} {n m : Nat} (h1 : Rg n c) (h2 : Rg m qs) (h : ∀ x, Mem c x ↔ Mem qs x) : c = qs := Can.ext h1.can h2.can h
theorem prts_ok {ps : List Pr} (h : ∀ p ∈ ps, R9 p) : ∀ z ∈ prts ps, (ev1 F_part_range (.str z.1) = some (ra z.2) ∧ Rg 1 z.2) ∧ 124 ∉ tl z.1 ∧ z.1.length ≤ 44 := by
  have n1 : tl noneS = [110, 111, 110, 101] := TL.tl_ofString _
  have n2 : tl anyS = [97, 110, 121] := TL.tl_ofString _
  intro z hz
  unfold prts at hz
  split at hz
  · rw [List.mem_singleton.mp hz]
    have := part_ok noneS (by decide)
    unfold bnds at this
    rw [if_pos rfl] at this
    obtain ⟨c, h1, h2, h3⟩ := this
    have hc : c = [] := mk_ra (m := 0) h2 ⟨trivial, by simp⟩ fun x => ⟨fun hm => ((h3 x).mp hm).2 [] List.mem_cons_self, fun hm => absurd hm mem_nil⟩
    rw [hc] at h1
    exact ⟨⟨h1, ⟨trivial, by simp⟩⟩, by rw [n1]; simp, by decide⟩
  · split at hz
    · rw [List.mem_singleton.mp hz]
      have := part_ok anyS (by decide)
      unfold bnds at this
      rw [if_neg (by decide +kernel), if_pos rfl] at this
      obtain ⟨c, h1, h2, h3⟩ := this
      have hr : Rg 1 [((0 : Int), (999999 : Int))] := ⟨⟨by omega, by omega, by omega, trivial⟩, by simp⟩
      have hc : c = [(0, 999999)] := mk_ra h2 hr fun x => by rw [h3, mem_any]; simp
      rw [hc] at h1
      exact ⟨⟨h1, hr⟩, by rw [n2]; simp, by decide⟩
    · obtain ⟨p, hp, rfl⟩ := List.mem_map.mp hz
      have hg := stW_good (h p hp)
      obtain ⟨c, h1, h2, h3⟩ := part_bts hg
      have hp' := h p hp
      have hr : Rg 1 [p] := ⟨⟨hp'.1, hp'.2.1, hp'.2.2, trivial⟩, by simp⟩
      have hc : c = [p] := mk_ra h2 hr fun x => by rw [h3]; exact stW_mem hp' x
      rw [hc] at h1
      exact ⟨⟨h1, hr⟩, bts_free hg, bts_len hg⟩
theorem prts_mem (ps : List Pr) (x : Int) : (∃ z ∈ prts ps, Mem z.2 x) ↔ Mem ps x := by
  unfold prts
  split
  · rename_i h
    rw [h]; simp [Mem]
  · split
    · rename_i h
      rw [h]
      exact ⟨fun ⟨z, hz, hm⟩ => by rw [List.mem_singleton.mp hz] at hm; exact hm, fun hm => ⟨_, List.mem_singleton_self _, hm⟩⟩
    · constructor
      · rintro ⟨z, hz, p, hp, hm⟩
        obtain ⟨q, hq, rfl⟩ := List.mem_map.mp hz
        rw [List.mem_singleton.mp hp] at hm
        exact ⟨q, hq, hm⟩
      · rintro ⟨q, hq, hm⟩
        exact ⟨_, List.mem_map_of_mem hq, q, List.mem_singleton_self _, hm⟩
theorem shR_len {ps : List Pr} (h : ∀ p ∈ ps, R9 p) (hl : ps.length ≤ 1000) : (shR ps).length ≤ 48000 := by
  unfold shR
  rw [TL.len_tl, TL.join_eq, TL.tl_join, bar_tl]
  have h1 := joinL_len (S := [32, 124, 32]) (B := 44) (ps := ((prts ps).map (·.1)).map tl) fun p hp => by
    obtain ⟨w, hw, rfl⟩ := List.mem_map.mp hp
    obtain ⟨z, hz, rfl⟩ := List.mem_map.mp hw
    rw [← TL.len_tl]
    exact (prts_ok h z hz).2.2
  have h2 := prts_len ps
  simp only [List.length_map, List.length_cons, List.length_nil] at h1
  omega
theorem show_ra {ps : List Pr} (h : ∀ p ∈ ps, R9 p) (hl : ps.length ≤ 1000) : ev1 F_show_range (ra ps) = some (.str (shR ps)) := by
  unfold F_show_range
  rw [q_ev1]
  unfold B_show_range
  have o1 : k_NONE = ra [] := rfl
  have o2 : k_ANY = ra [(0, 999999)] := rfl
  have hd : ∀ qs, decide (rt ps = rt qs) = decide (ps = qs) := fun qs => by
    rw [decide_eq_decide]
    exact ⟨rt_inj, fun h => by rw [h]⟩
  have q1 := eq_ra ps []
  have q2 := eq_ra ps [(0, 999999)]
  rw [hd] at q1 q2
  by_cases c1 : ps = []
  · rw [decide_eq_true c1] at q1
    have e : shR ps = noneS := by
      unfold shR prts
      rw [if_pos c1]
      apply TL.ext_tl
      rw [TL.join_eq, TL.tl_join]
      rfl
    rw [e]
    simp [o1, q1]
  · rw [decide_eq_false c1] at q1
    by_cases c2 : ps = [(0, 999999)]
    · rw [decide_eq_true c2] at q2
      have e : shR ps = anyS := by
        unfold shR prts
        rw [if_neg c1, if_pos c2]
        apply TL.ext_tl
        rw [TL.join_eq, TL.tl_join]
        rfl
      rw [e]
      simp [o1, o2, q1, q2]
    · rw [decide_eq_false c2] at q2
      have hc := comp_map (vs := [1, 2]) (g := gTup 2 (gCons (gN 1) (gCons (gN 2) gNil))) (t := bYes) (e := eCall F_show_stretch (aCons (eV 1) (aCons (eV 2) aNil))) (ss := [.imm (ra ps), .un, .un]) (fun p : Pr => (.tuple [Datum.toD (at_ p.1), Datum.toD (at_ p.2)] : D)) (fun _ => true) (fun p => .str (stT p)) ps fun p hp => by
        have := show_st (h p hp)
        unfold turnF
        simp [lend, lendS, unlend, unlendS, wipeS, this]
      have hf : ps.filter (fun _ => true) = ps := List.filter_eq_self.mpr fun _ _ => rfl
      rw [hf] at hc
      have hit : itemsOf (ra ps) = some (ps.map fun p : Pr => (.tuple [Datum.toD (at_ p.1), Datum.toD (at_ p.2)] : D)) := by rw [ra_eq]; rfl
      have hj := gjoin_l (x := barS) (ys := ps.map stT) (B := 44) (fun y hy => by
        obtain ⟨p, hp, rfl⟩ := List.mem_map.mp hy
        exact bts_len (stW_good (h p hp))) (by
          have : barS.length = 3 := rfl
          rw [List.length_map, this]; omega)
      have hj := hj.1
      rw [List.map_map] at hj
      have hlp : ps.length ≤ 16777216 := by omega
      have e : shR ps = Txt.join barS (ps.map stT) := by
        unfold shR prts
        rw [if_neg c1, if_neg c2, List.map_map]
        rfl
      rw [e]
      have hj : gJoin barS (.list (ps.map fun p => .str (stT p))) = some (.str (Txt.join barS (ps.map stT))) := hj
      simp [o1, o2, q1, q2, hit, wipeS, hc, hlp, backS, backF, keepS, hj]
end G

set_option maxHeartbeats 1000000
/-! read_range of what reads -/
namespace G
open PySem Dt Dm Dk Rn
open L2 (atI ixN)
open PySem.W (Datum DatumOrd Tup T3 T4)
open TL (tl spl numL pre joinL)
theorem pre_bar {l : List Nat} {i : Nat} (h : ∀ k, l[i + 1]? = some k → k ≠ 124) : pre [32, 124, 32] (l.drop i) = false := by
  cases hp : pre [32, 124, 32] (l.drop i) with
  | false => rfl
  | true =>
    have e : (l.drop i).take 3 = [32, 124, 32] := eq_of_beq hp
    have e1 : ((l.drop i).take 3)[1]? = some 124 := by rw [e]; rfl
    rw [List.getElem?_take, if_pos (by decide), List.getElem?_drop] at e1
    exact absurd rfl (h 124 e1)
theorem spl_bar : ∀ {parts : List (List Nat)}, parts ≠ [] → (∀ p ∈ parts, 124 ∉ p) → spl [32, 124, 32] 0 [] (joinL [32, 124, 32] parts) = parts
  | [], h, _ => absurd rfl h
  | [p], _, hp => by
    show spl _ 0 [] p = [p]
    have := hp p (by simp)
    rw [TL.spl_last fun i hi => pre_bar fun k hk => by
      rintro rfl
      exact this (List.mem_of_getElem? hk)]
    rfl
  | p :: q :: r, _, hp => by
    show spl _ 0 [] (p ++ ([32, 124, 32] ++ joinL [32, 124, 32] (q :: r))) = _
    have h1 := hp p (by simp)
    rw [TL.spl_part (by simp) fun i hi => pre_bar fun k hk => by
      rintro rfl
      by_cases h : i + 1 < p.length
      · rw [List.getElem?_append_left h] at hk
        exact h1 (List.mem_of_getElem? hk)
      · have hi : i + 1 = p.length := by omega
        rw [List.getElem?_append_right (by omega), hi, Nat.sub_self] at hk
        cases hk]
    rw [spl_bar (by simp) fun x hx => hp x (List.mem_cons_of_mem _ hx)]
    rfl
theorem split_bar {parts : List Str} (hn : parts ≠ []) (hp : ∀ p ∈ parts, 124 ∉ tl p) : Txt.split (Txt.join barS parts) barS = parts := by
  refine TL.map_tl_inj ?_
  rw [TL.split_spl _ barS (by rw [bar_tl]; simp) (TL.kind_ok (by decide +kernel)), TL.join_eq, TL.tl_join, bar_tl]
  refine spl_bar (by simpa using hn) fun p hp' => ?_
  obtain ⟨q, hq, rfl⟩ := List.mem_map.mp hp'
  exact hp q hq
theorem joinL_app (S : List Nat) : ∀ {a b : List (List Nat)}, a ≠ [] → b ≠ [] → joinL S (a ++ b) = joinL S a ++ (S ++ joinL S b)
  | [], _, h, _ => absurd rfl h
  | [p], [], _, h => absurd rfl h
  | [p], q :: r, _, _ => rfl
  | p :: q :: r, b, _, hb => by
    have := joinL_app S (a := q :: r) (by simp) hb
    show p ++ (S ++ joinL S (q :: r ++ b)) = p ++ (S ++ joinL S (q :: r)) ++ _
    rw [this]
    simp
def RP (x : D) (zs rest : List (Str × List Pr)) (ss : SS) : Prop := (∃ c u, ss = [.imm x, .imm (.list (zs.map fun z => ra z.2)), .imm (ra c), u] ∧ Rg (zs.length - rest.length) c ∧ ∀ p, (Mem c p ∨ ∃ z ∈ rest, Mem z.2 p) ↔ ∃ z ∈ zs, Mem z.2 p) ∧ (∀ z ∈ rest, Rg 1 z.2) ∧ rest.length ≤ zs.length
theorem read_ok (x : Str) (zs : List (Str × List Pr)) (hx : x.length ≤ 1000000) (hs : Txt.split x barS = zs.map (·.1)) (hz : ∀ z ∈ zs, ev1 F_part_range (.str z.1) = some (ra z.2) ∧ Rg 1 z.2) (hl : zs.length ≤ 3000) :
    ∃ c, ev1 F_read_range (.str x) = some (ra c) ∧ Rg zs.length c ∧ ∀ p, Mem c p ↔ ∃ z ∈ zs, Mem z.2 p := by
  unfold F_read_range
  rw [q_ev1]
  unfold B_read_range
  have hg : gSplit x (.str barS) = some (.lst ((zs.map (·.1)).map .str)) := by
    unfold gSplit
    simp only
    rw [if_pos ⟨rfl, by show x.length + 2 ≤ 16777216; omega⟩, hs]
  rw [List.map_map] at hg
  have hg : gSplit x (.str barS) = some (.lst (zs.map fun z => .str z.1)) := hg
  have hc := comp_map (vs := [3]) (g := gN 3) (t := bYes) (e := eCall F_part_range (aCons (eV 3) aNil)) (ss := [.imm (.str x), .un, .un, .un]) (fun z : Str × List Pr => (.str z.1 : D)) (fun _ => true) (fun z => ra z.2) zs fun z hw => by
    have := (hz z hw).1
    unfold turnF
    simp [lend, lendS, unlend, unlendS, wipeS, this]
  have hf : zs.filter (fun _ => true) = zs := List.filter_eq_self.mpr fun _ _ => rfl
  rw [hf] at hc
  have hlw : zs.length ≤ 16777216 := by omega
  have hn : dIn .none (.list (zs.map fun z => ra z.2)) = some (.bool false) := by
    have := in_noneR (zs.map fun z => some z.2)
    rw [List.map_map] at this
    refine this.trans ?_
    simp
  have hstr : dIs "str" (.str x) = some (.bool true) := rfl
  have e0 : (Sl.imm (.str x) :: List.replicate (4 - 1) Sl.un) = [.imm (.str x), .un, .un, .un] := rfl
  rw [e0]
  have o : k_NONE = ra [] := rfl
  have s0 : ∀ T : FS, (sSeq S_read_range_0 (sSeq S_read_range_1 (sSeq S_read_range_2 (sSeq S_read_range_3 T)))) [.imm (.str x), .un, .un, .un] = T [.imm (.str x), .imm (.list (zs.map fun z => ra z.2)), .imm (ra []), .un] := fun T => by
    simp [hstr, hg, wipeS, hc, hlw, backS, backF, keepS, hn, o]
  rw [s0]
  have hit : itemsOf (.list (zs.map fun z => ra z.2)) = some (zs.map fun z => ra z.2) := rfl
  obtain ⟨s2, hL, ⟨c, u, rfl, hr, hm⟩, _⟩ := loop_invE (g := gN 3) (b := S_read_range_4_0) (enc := fun z : Str × List Pr => ra z.2) (xs := zs) (ss := [.imm (.str x), .imm (.list (zs.map fun z => ra z.2)), .imm (ra []), .un]) rfl (RP (.str x) zs)
    ⟨⟨[], _, rfl, ⟨trivial, by simp⟩, fun p => by simp [mem_nil]⟩, fun z h => (hz z h).2, Nat.le_refl _⟩ fun z r ss hR => by
      obtain ⟨⟨c, u, rfl, hr, hm⟩, hb, hlen⟩ := hR
      rw [List.length_cons] at hlen hr
      obtain ⟨c', e1, e2, e3⟩ := either_ok hr (hb z List.mem_cons_self) (by omega) (by omega)
      refine ⟨_, _, rfl, .inl (by simp [e1]; rfl), ⟨_, _, rfl, ⟨e2.can, by have := e2.len; omega⟩, fun p => ?_⟩, fun q hq => hb q (List.mem_cons_of_mem _ hq), by omega⟩
      rw [← hm p, e3]
      simp only [List.mem_cons, or_assoc]
      constructor
      · rintro (h | h | ⟨q, hq, h⟩)
        · exact .inl h
        · exact .inr ⟨z, .inl rfl, h⟩
        · exact .inr ⟨q, .inr hq, h⟩
      · rintro (h | ⟨q, (rfl | hq), h⟩)
        · exact .inl h
        · exact .inr (.inl h)
        · exact .inr (.inr ⟨q, hq, h⟩)
  refine ⟨c, ?_, ⟨hr.can, by have := hr.len; simpa using this⟩, fun p => by rw [← hm p]; simp⟩
  rw [q_sSeq]
  have : S_read_range_4 [.imm (.str x), .imm (.list (zs.map fun z => ra z.2)), .imm (ra []), .un] = .nx [.imm (.str x), .imm (.list (zs.map fun z => ra z.2)), .imm (ra c), u] := by
    rw [← hL]; simp [hit]
  rw [this]
  simp
/-- a text of bounds, read as a range -/
theorem read_bts {ws : List (Str × Ed)} (h : GW ws) : ∃ c, ev1 F_read_range (.str (bts ws)) = some (ra c) ∧ Rg 1 c ∧ ∀ p, Mem c p ↔ (0 ≤ p ∧ p ≤ 999999) ∧ ∀ w ∈ ws, Mem (spanP w.1 w.2) p := by
  obtain ⟨c, h1, h2, h3⟩ := part_bts h
  have hl := bts_len h
  have hs : Txt.split (bts ws) barS = [bts ws] := by
    have := split_bar (parts := [bts ws]) (by simp) (by simpa using bts_free h)
    have e : Txt.join barS [bts ws] = bts ws := by
      apply TL.ext_tl
      rw [TL.join_eq, TL.tl_join]
      rfl
    rw [e] at this
    exact this
  obtain ⟨d, k1, k2, k3⟩ := read_ok (bts ws) [(bts ws, c)] (by omega) hs (by simpa using ⟨h1, h2⟩) (by simp)
  refine ⟨d, k1, k2, fun p => ?_⟩
  rw [k3, ← h3]
  simp
/-- two ranges shown, joined by a bar, and read -/
theorem read_two {a b : List Pr} (ha : ∀ p ∈ a, R9 p) (hb : ∀ p ∈ b, R9 p) (la : a.length ≤ 1000) (lb : b.length ≤ 1000) : ∃ c n, ev1 F_read_range (.str ((shR a ++ barS) ++ shR b)) = some (ra c) ∧ Rg n c ∧ ∀ p, Mem c p ↔ Mem a p ∨ Mem b p := by
  have e : (shR a ++ barS) ++ shR b = Txt.join barS ((prts a ++ prts b).map (·.1)) := by
    apply TL.ext_tl
    unfold shR
    rw [TL.join_eq, TL.join_eq, TL.join_eq, TL.tl_append, TL.tl_append, TL.tl_join, TL.tl_join, TL.tl_join, List.map_append, List.map_append, joinL_app _ (by simpa using prts_ne a) (by simpa using prts_ne b)]
    simp
  have l1 := shR_len ha la
  have l2 := shR_len hb lb
  have hx : ((shR a ++ barS) ++ shR b).length ≤ 1000000 := by
    rw [TL.len_tl] at *
    rw [TL.tl_append, TL.tl_append, List.length_append, List.length_append, bar_tl, List.length_cons, List.length_cons, List.length_cons, List.length_nil]
    omega
  have hz : ∀ z ∈ prts a ++ prts b, (ev1 F_part_range (.str z.1) = some (ra z.2) ∧ Rg 1 z.2) ∧ 124 ∉ tl z.1 ∧ z.1.length ≤ 44 := fun z h => by
    rcases List.mem_append.mp h with h | h
    · exact prts_ok ha z h
    · exact prts_ok hb z h
  have hs : Txt.split ((shR a ++ barS) ++ shR b) barS = (prts a ++ prts b).map (·.1) := by
    rw [e]
    refine split_bar ?_ fun p hp => ?_
    · have := prts_ne a
      intro h
      rw [List.map_append, List.append_eq_nil_iff, List.map_eq_nil_iff] at h
      exact this h.1
    · obtain ⟨z, h, rfl⟩ := List.mem_map.mp hp
      exact (hz z h).2.1
  obtain ⟨c, k1, k2, k3⟩ := read_ok _ (prts a ++ prts b) hx hs (fun z h => (hz z h).1) (by
    rw [List.length_append]
    have := prts_len a
    have := prts_len b
    omega)
  refine ⟨c, _, k1, k2, fun p => ?_⟩
  rw [k3, ← prts_mem a, ← prts_mem b]
  simp only [List.mem_append, or_and_right, exists_or]
end G

set_option maxHeartbeats 1000000
/-! has and follows, by places -/
namespace G
open PySem Dt Dm Dk Rn
open L2 (atI ixN)
open PySem.W (Datum DatumOrd Tup T3 T4)
open TL (tl spl numL pre joinL)
theorem le_at {p q : Int} (p0 : 0 ≤ p) (p1 : p ≤ 999999) (q0 : 0 ≤ q) (q1 : q ≤ 999999) : dLe (Datum.toD (at_ p)) (Datum.toD (at_ q)) = some (.bool (decide (p ≤ q))) := by
  rw [le_dat]
  congr 2
  show (!(if q / 10000 = p / 10000 then (if q / 100 % 100 = p / 100 % 100 then decide (q % 100 < p % 100) else decide (q / 100 % 100 < p / 100 % 100)) else decide (q / 10000 < p / 10000))) = _
  rw [Bool.eq_iff_iff]
  repeat' split
  all_goals simp
  all_goals omega
theorem gt_at {p q : Int} (p0 : 0 ≤ p) (p1 : p ≤ 999999) (q0 : 0 ≤ q) (q1 : q ≤ 999999) : dGt (Datum.toD (at_ p)) (Datum.toD (at_ q)) = some (.bool (decide (q < p))) := by
  rw [gt_dat]
  congr 2
  show (if q / 10000 = p / 10000 then (if q / 100 % 100 = p / 100 % 100 then decide (q % 100 < p % 100) else decide (q / 100 % 100 < p / 100 % 100)) else decide (q / 10000 < p / 10000)) = _
  rw [Bool.eq_iff_iff]
  repeat' split
  all_goals simp
  all_goals omega
theorem any_mem (a : List Pr) (x : Int) : (a.any fun p => decide (p.1 ≤ x) && decide (x ≤ p.2)) = decide (Mem a x) := by
  rw [Bool.eq_iff_iff, decide_eq_true_eq, List.any_eq_true]
  simp [Mem]
theorem ra_map (ps : List Pr) : ra ps = .tuple (ps.map fun p => .tuple [Datum.toD (at_ p.1), Datum.toD (at_ p.2)]) := ra_eq ps
theorem has_eq {n : Nat} {a : List Pr} (ha : Rg n a) (hn : n ≤ 9000) (x : Int) (h0 : 0 ≤ x) (h1 : x ≤ 999999) : ev2 F_has (ra a) (Datum.toD (at_ x)) = some (.bool (decide (Mem a x))) := by
  unfold F_has
  rw [q_ev2]
  unfold B_has
  have l1 := ha.len
  simp [-q_nLc]
  rw [nLc_pure (fun p : Pr => (.tuple [Datum.toD (at_ p.1), Datum.toD (at_ p.2)] : D)) (fun p => .bool (decide (p.1 ≤ x) && decide (x ≤ p.2))) a ?hs ?h ?hl]
  case hs => simp [ra_map]
  case h =>
    intro p hp
    have := can_all ha.can (Int.le_refl _) p hp
    have e1 := le_at (p := p.1) (q := x) (by omega) (by omega) h0 h1
    have e2 := le_at (p := x) (q := p.2) h0 h1 (by omega) (by omega)
    unfold turnF
    by_cases c : p.1 ≤ x <;> simp [lend, lendS, unlend, unlendS, wipeS, e1, e2, c]
  case hl => rw [q_size]; omega
  rw [← any_mem]
  simp [wipeS, backS, backF, keepS, mapM_asB _ _ (fun p : Pr => rfl), Function.comp_def]
theorem follows_at {x : Int} (h0 : 0 ≤ x) (h1 : x ≤ 999999) : ev1 F_follows (Datum.toD (at_ x)) = some (if x = 999999 then .none else Datum.toD (at_ (x + 1))) := by
  unfold F_follows
  rw [q_ev1]
  unfold B_follows
  have q := at_eq x 999999
  rw [at9] at q
  have p1 := place_of_at x (by omega) (by omega)
  have p2 := edition_at_eq (x + 1)
  by_cases c : x = 999999
  · rw [decide_eq_true c] at q
    rw [if_pos c]
    simp [k_LAST, q]
  · rw [decide_eq_false c] at q
    rw [if_neg c]
    simp [k_LAST, q, p1, p2]
end G

set_option maxHeartbeats 1000000
/-! k33: a span walked; the hat -/
namespace G
open PySem Dt Dm Dk Rn
open L2 (atI ixN)
open PySem.W (Datum DatumOrd Tup T3 T4)
open TL (tl spl numL pre joinL)
theorem at_ne (p q : Int) : dNe (Datum.toD (at_ p)) (Datum.toD (at_ q)) = some (.bool (!decide (p = q))) := by
  rw [ne_dat]
  congr 3
  rw [decide_eq_decide]
  exact ⟨at_inj, fun h => by rw [h]⟩
theorem walk (X lo : Sl) (h : Int) (hh : h ≤ 999999) : ∀ (n fuel : Nat) (f x : Int), x + n = h → 0 ≤ x → n < fuel →
    sWh (bOf (eOp dNe (eV 4) (eV 3))) L__law_walked_1_1 fuel [X, .imm (.int f), lo, .imm (Datum.toD (at_ h)), .imm (Datum.toD (at_ x))] = .nx [X, .imm (.int (f + n)), lo, .imm (Datum.toD (at_ h)), .imm (Datum.toD (at_ h))]
  | 0, 0, _, _, _, _, hf => absurd hf (by omega)
  | n + 1, 0, _, _, _, _, hf => absurd hf (by omega)
  | 0, fuel + 1, f, x, hx, h0, _ => by
    have e : x = h := by omega
    subst e
    have q := at_ne x x
    rw [decide_eq_true rfl] at q
    unfold sWh
    simp [q]
  | n + 1, fuel + 1, f, x, hx, h0, hf => by
    have q := at_ne x h
    rw [decide_eq_false (by omega)] at q
    have fo := follows_at h0 (by omega)
    rw [if_neg (by omega)] at fo
    have ih := walk X lo h hh n fuel (f + 1) (x + 1) (by omega) (by omega) (by omega)
    unfold sWh
    have e : f + 1 + (n : Int) = f + ((n + 1 : Nat) : Int) := by omega
    rw [e] at ih
    simp [q, fo]
    exact ih
theorem walked_one {l h : Int} (h0 : 0 ≤ l) (h1 : l ≤ h) (h2 : h ≤ 999999) (h3 : h - l < 1000) : ev1 F__law_walked (ra [(l, h)]) = some (.int (h - l + 1)) := by
  unfold F__law_walked
  rw [q_ev1]
  unfold B__law_walked
  obtain ⟨n, hn⟩ : ∃ n : Nat, l + n = h := ⟨(h - l).toNat, by omega⟩
  have w := walk (.imm (ra [(l, h)])) (.imm (Datum.toD (at_ l))) h h2 n fuelW 0 l hn h0 (by show n < 100000; omega)
  have e : (0 : Int) + n + 1 = h - l + 1 := by omega
  have c0 : S__law_walked_1_0 [.imm (ra [(l, h)]), .imm (.int 0), .imm (Datum.toD (at_ l)), .imm (Datum.toD (at_ h)), .un] = .nx [.imm (ra [(l, h)]), .imm (.int 0), .imm (Datum.toD (at_ l)), .imm (Datum.toD (at_ h)), .imm (Datum.toD (at_ l))] := by simp
  have c1 : S__law_walked_1_1 [.imm (ra [(l, h)]), .imm (.int 0), .imm (Datum.toD (at_ l)), .imm (Datum.toD (at_ h)), .imm (Datum.toD (at_ l))] = .nx [.imm (ra [(l, h)]), .imm (.int (0 + n)), .imm (Datum.toD (at_ l)), .imm (Datum.toD (at_ h)), .imm (Datum.toD (at_ h))] := w
  have c2 : S__law_walked_1_2 [.imm (ra [(l, h)]), .imm (.int (0 + n)), .imm (Datum.toD (at_ l)), .imm (Datum.toD (at_ h)), .imm (Datum.toD (at_ h))] = .nx [.imm (ra [(l, h)]), .imm (.int (h - l + 1)), .imm (Datum.toD (at_ l)), .imm (Datum.toD (at_ h)), .imm (Datum.toD (at_ h))] := by simp [-Int.zero_add, e]
  have hb : L__law_walked_1 [.imm (ra [(l, h)]), .imm (.int 0), .imm (Datum.toD (at_ l)), .imm (Datum.toD (at_ h)), .un] = .nx [.imm (ra [(l, h)]), .imm (.int (h - l + 1)), .imm (Datum.toD (at_ l)), .imm (Datum.toD (at_ h)), .imm (Datum.toD (at_ h))] := by
    unfold L__law_walked_1
    rw [seq_nx c0, seq_nx c1, c2]
  have hi : itemsOf (ra [(l, h)]) = some [.tuple [Datum.toD (at_ l), Datum.toD (at_ h)]] := rfl
  have hg : gTup 2 (gCons (gN 2) (gCons (gN 3) gNil)) (.tuple [Datum.toD (at_ l), Datum.toD (at_ h)]) [.imm (ra [(l, h)]), .imm (.int 0), .un, .un, .un] = some [.imm (ra [(l, h)]), .imm (.int 0), .imm (Datum.toD (at_ l)), .imm (Datum.toD (at_ h)), .un] := by simp
  have hl : loopF (gTup 2 (gCons (gN 2) (gCons (gN 3) gNil))) L__law_walked_1 [.tuple [Datum.toD (at_ l), Datum.toD (at_ h)]] [.imm (ra [(l, h)]), .imm (.int 0), .un, .un, .un] = .nx [.imm (ra [(l, h)]), .imm (.int (h - l + 1)), .imm (Datum.toD (at_ l)), .imm (Datum.toD (at_ h)), .imm (Datum.toD (at_ h))] := by
    unfold loopF
    rw [hg]
    simp only
    rw [hb]
    rfl
  simp [hi, hl]
theorem ne1 (a b : Int) : dNe (.tuple [.int a]) (.tuple [.int b]) = some (.bool (!decide (a = b))) := (ne_dat (⟨[a]⟩ : Tup Int) ⟨[b]⟩).trans (by simp)
theorem ne2 (a b c d : Int) : dNe (.tuple [.int a, .int b]) (.tuple [.int c, .int d]) = some (.bool (!decide (a = c ∧ b = d))) := (ne_dat (⟨[a, b]⟩ : Tup Int) ⟨[c, d]⟩).trans (by simp)
theorem ne3 (a b c d e f : Int) : dNe (.tuple [.int a, .int b, .int c]) (.tuple [.int d, .int e, .int f]) = some (.bool (!decide (a = d ∧ b = e ∧ c = f))) := (ne_dat (⟨[a, b, c]⟩ : Tup Int) ⟨[d, e, f]⟩).trans (by simp)
theorem sl1 (a b c : D) : cutD [a, b, c] none (some 1) = [a] := rfl
theorem sl2 (a b c : D) : cutD [a, b, c] none (some 2) = [a, b] := rfl
theorem sl3 (a b c : D) : cutD [a, b, c] none (some 3) = [a, b, c] := rfl
theorem eq_nil_l (xs : List Int) : dEq (.list (xs.map .int)) (.list []) = some (.bool (decide (xs = []))) := eq_dat xs []
theorem at_tup {x p q r : Int} (h : x = p * 10000 + q * 100 + r) (hq : 0 ≤ q ∧ q ≤ 99) (hr : 0 ≤ r ∧ r ≤ 99) : Datum.toD (at_ x) = (.tuple [.int p, .int q, .int r] : D) := by
  have e1 : x / 10000 = p := by omega
  have e2 : x / 100 % 100 = q := by omega
  have e3 : x % 100 = r := by omega
  unfold at_
  rw [e1, e2, e3]
  rfl
theorem hat_run {e : Ed} (he : EdR e) : ev2 F__law_hat_right (Datum.toD e) (.tuple [.tuple [Datum.toD e, Datum.toD (topE mHa e)]]) = some (.bool true) := by
  obtain ⟨_, t1, t2⟩ := top_ok (m := mHa) he
  have fo := follows_at (pl_rng t1).1 (pl_rng t1).2
  rw [at_pl t1] at fo
  obtain ⟨a, b, c⟩ := e
  obtain ⟨ha, hb, hc⟩ := he
  simp only at ha hb hc
  have nm : (mHa = mTi) = False := eq_false (by decide +kernel)
  have z : topE mHa ⟨a, b, c⟩ = if 0 < a then ⟨a, 99, 99⟩ else if 0 < b then ⟨0, b, 99⟩ else ⟨a, b, c⟩ := by
    unfold topE
    simp only [nm, if_false]
  rw [z] at fo ⊢
  have rg : rangeD 0 3 = [.int 0, .int 1, .int 2] := rfl
  have sm : small 3 = true := rfl
  have i1 : ∀ ds : List D, dIsN (.tuple ds) .none = some (.bool false) := fun ds => rfl
  have i2 : dIsN .none .none = some (.bool true) := rfl
  have at1 : ∀ x : Int, Datum.toD (at_ x) = (.tuple [.int (x / 10000), .int (x / 100 % 100), .int (x % 100)] : D) := fun x => rfl
  have n0 := eq_nil_l []
  have n1 : ∀ (x : Int) (r : List Int), dEq (.list (.int x :: r.map .int)) (.list []) = some (.bool false) := fun x r => (eq_nil_l (x :: r)).trans (by simp)
  have n1a := fun x : Int => n1 x []
  have n1b := fun x y : Int => n1 x [y]
  have n1c := fun x y z : Int => n1 x [y, z]
  simp only [List.map_nil, List.map_cons] at n0 n1a n1b n1c
  unfold F__law_hat_right
  rw [q_ev2]
  unfold B__law_hat_right
  simp only [ed_D] at fo ⊢
  by_cases ca : 0 < a
  · rw [if_pos ca] at fo ⊢
    unfold pl at fo
    simp only at fo
    have hd : (Datum.toD (T3.mk a (99 : Int) (99 : Int)) : D) = .tuple [.int a, .int 99, .int 99] := rfl
    simp only [hd] at fo ⊢
    by_cases h : a = 99
    · rw [if_pos (by omega)] at fo
      by_cases cb : 0 < b <;> by_cases cc : 0 < c <;> simp [rg, sm, i1, i2, ca, cb, cc, ne3, wipeS, backS, backF, keepS, n1a, n1b, n1c, fo, sl1, ne1]
    · rw [if_neg (by omega), at_tup (p := a + 1) (q := 0) (r := 0) (by omega) (by omega) (by omega)] at fo
      have g : ¬(a + 1 = a) := by omega
      by_cases cb : 0 < b <;> by_cases cc : 0 < c <;> simp [rg, sm, i1, i2, ca, cb, cc, ne3, wipeS, backS, backF, keepS, n1a, n1b, n1c, fo, sl1, ne1, g]
  · have a0 : a = 0 := by omega
    subst a0
    rw [if_neg ca] at fo ⊢
    by_cases cb : 0 < b
    · rw [if_pos cb] at fo ⊢
      unfold pl at fo
      simp only at fo
      have hd : (Datum.toD (T3.mk (0 : Int) b (99 : Int)) : D) = .tuple [.int 0, .int b, .int 99] := rfl
      simp only [hd] at fo ⊢
      rw [if_neg (by omega)] at fo
      by_cases h : b = 99
      · rw [at_tup (p := 1) (q := 0) (r := 0) (by omega) (by omega) (by omega)] at fo
        by_cases cc : 0 < c <;> simp [rg, sm, i1, i2, cb, cc, ne3, wipeS, backS, backF, keepS, n1a, n1b, n1c, fo, sl2, ne2]
      · rw [at_tup (p := 0) (q := b + 1) (r := 0) (by omega) (by omega) (by omega)] at fo
        have g : ¬(b + 1 = b) := by omega
        by_cases cc : 0 < c <;> simp [rg, sm, i1, i2, cb, cc, ne3, wipeS, backS, backF, keepS, n1a, n1b, n1c, fo, sl2, ne2, g]
    · have b0 : b = 0 := by omega
      subst b0
      rw [if_neg cb] at fo ⊢
      unfold pl at fo
      simp only at fo
      have hd : (Datum.toD (T3.mk (0 : Int) (0 : Int) c) : D) = .tuple [.int 0, .int 0, .int c] := rfl
      have q3 : dEq (.tuple [.int 0, .int 0, .int c]) (.tuple [.int 0, .int 0, .int c]) = some (.bool true) := (eq_dat (T3.mk (0 : Int) (0 : Int) c) ⟨0, 0, c⟩).trans (by simp)
      simp only [hd] at fo ⊢
      rw [if_neg (by omega)] at fo
      by_cases cc : 0 < c
      · by_cases h : c = 99
        · rw [at_tup (p := 0) (q := 1) (r := 0) (by omega) (by omega) (by omega)] at fo
          simp [rg, sm, i1, i2, cc, ne3, wipeS, backS, backF, keepS, n1a, n1b, n1c, fo, sl3, ne3]
        · rw [at_tup (p := 0) (q := 0) (r := c + 1) (by omega) (by omega) (by omega)] at fo
          have g : ¬(c + 1 = c) := by omega
          simp [rg, sm, i1, i2, cc, ne3, wipeS, backS, backF, keepS, n1a, n1b, n1c, fo, sl3, ne3, g]
      · simp [rg, sm, i1, i2, cc, ne3, wipeS, backS, backF, keepS, n0, q3]
end G

set_option maxHeartbeats 1000000
/-! k33: the seven signs -/
namespace G
open PySem Dt Dm Dk Rn
open L2 (atI ixN)
open PySem.W (Datum DatumOrd Tup T3 T4)
open TL (tl spl numL pre joinL)
theorem bts_one (m : Str) (e : Ed) : bts [(m, e)] = m ++ tE e := by
  apply TL.ext_tl
  rw [bts_tl, TL.tl_append]
  show tl (bt (m, e)) = _
  rw [bt_tl]
theorem bts_two (m n : Str) (e f : Ed) : bts [(m, e), (n, f)] = ((m ++ tE e) ++ Str.ofString " ") ++ (n ++ tE f) := by
  apply TL.ext_tl
  rw [bts_tl, TL.tl_append, TL.tl_append, TL.tl_append, TL.tl_append, spc_tl]
  show tl (bt (m, e)) ++ ([32] ++ tl (bt (n, f))) = _
  rw [bt_tl, bt_tl]
  simp
theorem spanP_rg {m : Str} {e : Ed} (hm : m ∈ marks7) (he : EdR e) : Rg 1 (spanP m e) := bnd_rg (bnd_bt (w := (m, e)) hm he)
theorem read_sign {m : Str} {e : Ed} (hm : m ∈ marks7) (he : EdR e) : ev1 F_read_range (.str (m ++ tE e)) = some (ra (spanP m e)) := by
  obtain ⟨c, h1, h2, h3⟩ := read_bts (ws := [(m, e)]) ⟨by simp, by simp, fun w hw => by rw [List.mem_singleton.mp hw]; exact ⟨hm, he⟩⟩
  have hr := spanP_rg hm he
  have hc : c = spanP m e := mk_ra h2 hr fun x => by
    rw [h3]
    simp only [List.mem_singleton, forall_eq]
    exact ⟨fun h => h.2, fun h => ⟨hr.can.low h, h⟩⟩
  rw [hc, bts_one] at h1
  exact h1
theorem read_both {m n : Str} {e f : Ed} (hm : m ∈ marks7) (he : EdR e) (hn : n ∈ marks7) (hf : EdR f) : ∃ c, ev1 F_read_range (.str (((m ++ tE e) ++ Str.ofString " ") ++ (n ++ tE f))) = some (ra c) ∧ ev2 F_both (ra (spanP m e)) (ra (spanP n f)) = some (ra c) := by
  obtain ⟨c, h1, h2, h3⟩ := read_bts (ws := [(m, e), (n, f)]) ⟨by simp, by simp, fun w hw => by
    rcases List.mem_cons.mp hw with rfl | hw
    · exact ⟨hm, he⟩
    · rw [List.mem_singleton.mp hw]; exact ⟨hn, hf⟩⟩
  have r1 := spanP_rg hm he
  have r2 := spanP_rg hn hf
  obtain ⟨d, k1, k2, k3⟩ := both_ok r1 r2 (by omega) (by omega)
  have hc : c = d := mk_ra h2 k2 fun x => by
    rw [h3, k3]
    simp only [List.mem_cons, List.not_mem_nil, or_false, forall_eq_or_imp, forall_eq]
    exact ⟨fun h => h.2, fun h => ⟨r1.can.low h.1, h⟩⟩
  rw [bts_two] at h1
  rw [← hc] at k1
  exact ⟨c, h1, k1⟩
abbrev seven : List Str := [mEq, mGe, mGt, mLe, mLt, mTi, mHa]
theorem seven_in : ∀ s ∈ seven, s ∈ marks7 := by
  intro s hs
  simp only [marks7, List.mem_cons, List.not_mem_nil, or_false] at *
  rcases hs with h | h | h | h | h | h | h <;> simp [h]
theorem seven_nd : seven.Nodup := by decide +kernel
theorem tget_self {β : Type} (g : Str → β) : ∀ {l : List Str} {s : Str}, s ∈ l → tget (l.map fun x => (x, g x)) s = some (g s)
  | x :: l, s, h => by
    unfold tget
    rw [List.map_cons, List.find?_cons]
    by_cases e : x = s
    · simp [e]
    · rcases List.mem_cons.mp h with h | h
      · exact absurd h.symm e
      · have := tget_self g h
        unfold tget at this
        simp only [decide_eq_false e]
        exact this
abbrev toldD (l : List Str) (e : Ed) : List (D × D) := (l.map fun x => (x, spanP x e)).map (enc2 (fun x : Str => (.str x : D)) ra)
theorem sign_step (S X a b : D) {u : O} {m : Nat} (hd : Deck m u) (hm : m ≤ 80000) {e : Ed} (he : EdR e) (done : List Str) (hl : done.length ≤ 7) {x : Str} (hx : x ∈ seven) (hn : x ∉ done) (v9 v10 : Sl) :
    ∃ u' v9', L_law_0_6 [.imm S, .imm X, .own u, .imm a, .imm b, .imm (Datum.toD e), .imm (.str (tE e)), .own (.dct (toldD done e)), .imm (.str x), v9, v10]
      = .nx [.imm S, .imm X, .own u', .imm a, .imm b, .imm (Datum.toD e), .imm (.str (tE e)), .own (.dct (toldD (done ++ [x]) e)), .imm (.str x), v9', v10] ∧ Deck (m + 6) u' := by
  have hm7 := seven_in x hx
  have r1 := read_sign hm7 he
  obtain ⟨i, u1, e1, i0, i1, d1⟩ := pick_spec (m := 2) hd (by omega) (by decide) (by decide)
  obtain ⟨p, q, r, u2, e2, hp, hq, hr, d2⟩ := edition_ok d1 (by omega)
  have hf : EdR ⟨p, q, r⟩ := ⟨hp, hq, hr⟩
  have s1 := show_ed hf
  generalize hF : (T3.mk p q r : Ed) = f at *
  obtain ⟨n, hn7, hix⟩ : ∃ n, n ∈ marks7 ∧ dIx (.list [.str mLe, .str mGe]) (.int i) = some (.str n) := by
    have : i = 0 ∨ i = 1 := by omega
    rcases this with rfl | rfl
    · exact ⟨mLe, by simp [marks7], rfl⟩
    · exact ⟨mGe, by simp [marks7], rfl⟩
  have r2 := read_sign hn7 hf
  obtain ⟨c, r3, r4⟩ := read_both hm7 he hn7 hf
  have l1 := tE_len he
  have l2 := tE_len hf
  have lb := fun {m : Str} (h : m ∈ marks7) {e : Ed} (he : EdR e) => bt_len (w := (m, e)) h he
  have lx : x.length ≤ 2 := by
    rcases m_cases hm7 with h | h | h | h | h | h | h <;> rw [h] <;> decide
  have ln : n.length ≤ 2 := by
    rcases m_cases hn7 with h | h | h | h | h | h | h <;> rw [h] <;> decide
  have e0 : (Str.ofString " ").length = 1 := rfl
  have hput : dput (toldD done e) (.str x) (ra (spanP x e)) = toldD (done ++ [x]) e := by
    unfold toldD
    rw [dput_enc kenc_str, tput_new (by rw [List.map_map]; simpa [Function.comp_def] using hn)]
    simp only [List.map_append, List.map_cons, List.map_nil]
  have hlook : look (toldD (done ++ [x]) e) (.str x) = some (ra (spanP x e)) := by
    unfold toldD
    rw [look_enc kenc_str, tget_self (fun x => spanP x e) (by simp)]
    rfl
  have hlen : (toldD done e).length < sizeLine := by
    unfold toldD
    rw [List.length_map, List.length_map]
    show _ < 16777216
    omega
  have hrefl := ne_same c
  refine ⟨u2, .imm (.str (n ++ tE f)), ?_, d2.mono (by omega)⟩
  have k0 : S_law_0_6_0 [.imm S, .imm X, .own u, .imm a, .imm b, .imm (Datum.toD e), .imm (.str (tE e)), .own (.dct (toldD done e)), .imm (.str x), v9, v10] = .nx [.imm S, .imm X, .own u, .imm a, .imm b, .imm (Datum.toD e), .imm (.str (tE e)), .own (.dct (toldD (done ++ [x]) e)), .imm (.str x), v9, v10] := by
    generalize toldD done e = T at *
    generalize toldD (done ++ [x]) e = T' at *
    simp (disch := omega) [-q_size, -q_nLc, -q_nLc2, -getElem?_pos, -getElem?_neg, List.getElem?_cons_zero, List.getElem?_cons_succ, if_sz, if_sl, if_le, if_lt, if_log, rp_sn, r1, hlen, hput]
  have k1 : S_law_0_6_1 [.imm S, .imm X, .own u, .imm a, .imm b, .imm (Datum.toD e), .imm (.str (tE e)), .own (.dct (toldD (done ++ [x]) e)), .imm (.str x), v9, v10] = .nx [.imm S, .imm X, .own u2, .imm a, .imm b, .imm (Datum.toD e), .imm (.str (tE e)), .own (.dct (toldD (done ++ [x]) e)), .imm (.str x), .imm (.str (n ++ tE f)), v10] := by
    generalize toldD (done ++ [x]) e = T' at *
    simp (disch := omega) [-q_size, -q_nLc, -q_nLc2, -getElem?_pos, -getElem?_neg, List.getElem?_cons_zero, List.getElem?_cons_succ, if_sz, if_sl, if_le, if_lt, if_log, rp_sn, q_r2, pick_is, e1, hix, e2, s1]
  have k2 : S_law_0_6_2 [.imm S, .imm X, .own u2, .imm a, .imm b, .imm (Datum.toD e), .imm (.str (tE e)), .own (.dct (toldD (done ++ [x]) e)), .imm (.str x), .imm (.str (n ++ tE f)), v10] = .nx [.imm S, .imm X, .own u2, .imm a, .imm b, .imm (Datum.toD e), .imm (.str (tE e)), .own (.dct (toldD (done ++ [x]) e)), .imm (.str x), .imm (.str (n ++ tE f)), v10] := by
    generalize toldD (done ++ [x]) e = T' at *
    simp (disch := omega) [-q_size, -q_nLc, -q_nLc2, -getElem?_pos, -getElem?_neg, List.getElem?_cons_zero, List.getElem?_cons_succ, if_sz, if_sl, if_le, if_lt, if_log, rp_sn, r2, r3, r4, hlook, e0, hrefl]
  unfold L_law_0_6
  rw [seq_nx k0, seq_nx k1, k2]
end G

set_option maxHeartbeats 1000000
/-! k33: the law -/
namespace G
open PySem Dt Dm Dk Rn
open L2 (atI ixN)
open PySem.W (Datum DatumOrd Tup T3 T4)
open TL (tl spl numL pre joinL)
theorem signs_run (S X a b : D) {u : O} {m : Nat} (hd : Deck m u) (hm : m ≤ 70000) {e : Ed} (he : EdR e) (v8 v9 v10 : Sl) :
    ∃ u' v8' v9', S_law_0_6 [.imm S, .imm X, .own u, .imm a, .imm b, .imm (Datum.toD e), .imm (.str (tE e)), .own (.dct []), v8, v9, v10]
      = .nx [.imm S, .imm X, .own u', .imm a, .imm b, .imm (Datum.toD e), .imm (.str (tE e)), .own (.dct (toldD seven e)), v8', v9', v10] := by
  have hi : lSeq (eFz (nLst (lCons (eC (.str (Str.ofString "="))) (lCons (eC (.str (Str.ofString ">="))) (lCons (eC (.str (Str.ofString ">"))) (lCons (eC (.str (Str.ofString "<="))) (lCons (eC (.str (Str.ofString "<"))) (lCons (eC (.str (Str.ofString "~"))) (lCons (eC (.str (Str.ofString "^"))) lNil))))))))) [.imm S, .imm X, .own u, .imm a, .imm b, .imm (Datum.toD e), .imm (.str (tE e)), .own (.dct []), v8, v9, v10] = .ok (seven.map fun s => .str s) [.imm S, .imm X, .own u, .imm a, .imm b, .imm (Datum.toD e), .imm (.str (tE e)), .own (.dct []), v8, v9, v10] := by simp
  simp only [S_law_0_6, q_sFor, hi]
  generalize hL : loopF _ _ _ _ = oo
  obtain ⟨s2, rfl, done, u', m', w8, w9, h1, rfl, _⟩ := loop_invE hL (fun rest ss => ∃ done u' m' w8 w9, done ++ rest = seven ∧ ss = [.imm S, .imm X, .own u', .imm a, .imm b, .imm (Datum.toD e), .imm (.str (tE e)), .own (.dct (toldD done e)), w8, w9, v10] ∧ Deck m' u' ∧ m' + 6 * rest.length ≤ 79000) ⟨[], u, m, _, _, rfl, rfl, hd, by show m + 6 * 7 ≤ 79000; omega⟩ (fun x r ss hR => by
    obtain ⟨done, u', m', w8, w9, h1, rfl, d, hm'⟩ := hR
    rw [List.length_cons] at hm'
    have hx : x ∈ seven := by rw [← h1]; simp
    have hnd := seven_nd
    rw [← h1] at hnd
    have hn : x ∉ done := fun h => (List.nodup_append.mp hnd).2.2 x h x List.mem_cons_self rfl
    have hl : done.length ≤ 7 := by
      have := congrArg List.length h1
      rw [List.length_append] at this
      have e7 : seven.length = 7 := rfl
      omega
    obtain ⟨u2, w9', e2, d2⟩ := sign_step S X a b d (by omega) he done hl hx hn w9 v10
    refine ⟨_, _, rfl, .inl e2, done ++ [x], u2, m' + 6, _, _, by rw [← h1]; simp, rfl, d2, by omega⟩)
  rw [List.append_nil] at h1
  subst h1
  exact ⟨_, _, _, rfl⟩
theorem told_at (e : Ed) {s : Str} (h : s ∈ seven) : dIx (.dict (toldD seven e)) (.str s) = some (ra (spanP s e)) := by
  unfold toldD
  rw [dix_str, tget_self (fun x => spanP x e) h]
  rfl
theorem ra_eqs {c d : List Pr} (h : c = d) : dNe (ra c) (ra d) = some (.bool false) := by rw [h]; exact ne_same d
theorem tops {e : Ed} (he : EdR e) (h : 0 < e.a) : pl (topE mTi e) ≤ pl (topE mHa e) := by
  have nm : (mHa = mTi) = False := eq_false (by decide +kernel)
  obtain ⟨h1, h2, h3⟩ := he
  unfold topE
  rw [if_pos rfl]
  simp only [nm, if_false]
  rw [if_pos h]
  unfold pl
  simp only
  omega
theorem two_sp (e : Ed) : spanP mTi e = [(pl e, pl (topE mTi e))] ∧ spanP mHa e = [(pl e, pl (topE mHa e))] := ⟨if_pos (.inl rfl), if_pos (.inr rfl)⟩
theorem law_0_7 (S X a b : D) (u : O) {e : Ed} (he : EdR e) (v8 v9 v10 : Sl) : S_law_0_7 [.imm S, .imm X, .own u, .imm a, .imm b, .imm (Datum.toD e), .imm (.str (tE e)), .own (.dct (toldD seven e)), v8, v9, v10] = .nx [.imm S, .imm X, .own u, .imm a, .imm b, .imm (Datum.toD e), .imm (.str (tE e)), .imm (.dict (toldD seven e)), v8, v9, v10] := by
  have hp := pl_rng he
  obtain ⟨f1, f2, f3, f4, f5⟩ := sp_five e
  have t1 := told_at e (s := mGe) (by simp)
  have t2 := told_at e (s := mLt) (by simp)
  have t3 := told_at e (s := mGt) (by simp)
  have t4 := told_at e (s := mLe) (by simp)
  have g1 := spanP_rg (m := mGe) (by simp [marks7]) he
  have g2 := spanP_rg (m := mLt) (by simp [marks7]) he
  have g3 := spanP_rg (m := mGt) (by simp [marks7]) he
  have g4 := spanP_rg (m := mLe) (by simp [marks7]) he
  obtain ⟨c, k1, k2, k3⟩ := rest_ok g1 (by omega)
  obtain ⟨d, j1, j2, j3⟩ := rest_ok g3 (by omega)
  have q1 := ra_eqs (mk_ra k2 g2 fun x => by
    rw [k3, f2, f3, if_pos hp.2]
    split
    · rw [mem_one, mem_one]; omega
    · refine ⟨fun h => ?_, fun h => absurd h mem_nil⟩
      rw [mem_one] at h
      omega)
  have q2 := ra_eqs (mk_ra j2 g4 fun x => by
    rw [j3, f1, f4, if_pos hp.1]
    split
    · rw [mem_one, mem_one]; omega
    · rw [mem_one]
      exact ⟨fun h => by omega, fun h => ⟨by omega, mem_nil⟩⟩)
  generalize toldD seven e = T at *
  simp [t1, t2, t3, t4, k1, j1, q1, q2]
theorem law_0_8 (S X a b : D) (u : O) {e : Ed} (he : EdR e) (v8 v9 v10 : Sl) : S_law_0_8 [.imm S, .imm X, .own u, .imm a, .imm b, .imm (Datum.toD e), .imm (.str (tE e)), .imm (.dict (toldD seven e)), v8, v9, v10] = .nx [.imm S, .imm X, .own u, .imm a, .imm b, .imm (Datum.toD e), .imm (.str (tE e)), .imm (.dict (toldD seven e)), v8, v9, v10] := by
  have hp := pl_rng he
  obtain ⟨f1, f2, f3, f4, f5⟩ := sp_five e
  have t1 := told_at e (s := mGe) (by simp)
  have t2 := told_at e (s := mLe) (by simp)
  have t3 := told_at e (s := mEq) (by simp)
  have g1 := spanP_rg (m := mGe) (by simp [marks7]) he
  have g2 := spanP_rg (m := mLe) (by simp [marks7]) he
  have g3 := spanP_rg (m := mEq) (by simp [marks7]) he
  obtain ⟨c, k1, k2, k3⟩ := both_ok g1 g2 (by omega) (by omega)
  have q1 := ra_eqs (mk_ra k2 g3 fun x => by
    rw [k3, f1, f2, f5, if_pos hp.1, if_pos hp.2, mem_one, mem_one, mem_one]
    omega)
  have q2 : dNe (ra (spanP mEq e)) (.tuple [.tuple [Datum.toD e, Datum.toD e]]) = some (.bool false) := by
    have := ne_same (spanP mEq e)
    rw [f5] at this ⊢
    rw [ra1, at_pl he] at this ⊢
    exact this
  generalize toldD seven e = T at *
  simp [t1, t2, t3, k1, q1, q2]
theorem law_0_9 (S X a b : D) (u : O) {e : Ed} (he : EdR e) (v8 v9 v10 : Sl) : S_law_0_9 [.imm S, .imm X, .own u, .imm a, .imm b, .imm (Datum.toD e), .imm (.str (tE e)), .imm (.dict (toldD seven e)), v8, v9, v10] = .nx [.imm S, .imm X, .own u, .imm a, .imm b, .imm (Datum.toD e), .imm (.str (tE e)), .imm (.dict (toldD seven e)), v8, v9, v10] := by
  have hp := pl_rng he
  obtain ⟨z1, z2⟩ := two_sp e
  obtain ⟨_, p1, p2⟩ := top_ok (m := mTi) he
  have t1 := told_at e (s := mTi) (by simp)
  have g1 := spanP_rg (m := mTi) (by simp [marks7]) he
  have hh := has_eq g1 (by omega) (pl e) hp.1 hp.2
  rw [at_pl he, z1, decide_eq_true ((mem_one _ _ _).mpr ⟨Int.le_refl _, p2⟩)] at hh
  rw [z1] at t1
  have o : ra [(pl e, pl (topE mTi e))] = .tuple [.tuple [Datum.toD e, Datum.toD (topE mTi e)]] := by rw [ra1, at_pl he, at_pl p1]
  rw [o] at t1 hh
  obtain ⟨x, y, z⟩ := e
  have o2 : (Datum.toD (topE mTi ⟨x, y, z⟩) : D) = .tuple [.int x, .int y, .int 99] := by
    unfold topE
    rw [if_pos rfl]
    rfl
  rw [o2] at t1 hh
  have q : dNe (.tuple [.tuple [.int x, .int y, .int z], .tuple [.int x, .int y, .int 99]]) (.tuple [.tuple [.int x, .int y, .int z], .tuple [.int x, .int y, .int 99]]) = some (.bool false) := (ne_dat ((⟨x, y, z⟩, ⟨x, y, 99⟩) : Ed × Ed) (⟨x, y, z⟩, ⟨x, y, 99⟩)).trans (by simp)
  generalize toldD seven _ = T at *
  rw [ed_D] at t1 hh ⊢
  simp [t1, hh, q, sl2]
theorem law_0_10 (S X a b : D) (u : O) {e : Ed} (he : EdR e) (v8 v9 v10 : Sl) : S_law_0_10 [.imm S, .imm X, .own u, .imm a, .imm b, .imm (Datum.toD e), .imm (.str (tE e)), .imm (.dict (toldD seven e)), v8, v9, v10] = .nx [.imm S, .imm X, .own u, .imm a, .imm b, .imm (Datum.toD e), .imm (.str (tE e)), .imm (.dict (toldD seven e)), v8, v9, v10] := by
  have hp := pl_rng he
  obtain ⟨z1, z2⟩ := two_sp e
  obtain ⟨_, p1, p2⟩ := top_ok (m := mHa) he
  have t1 := told_at e (s := mTi) (by simp)
  have t2 := told_at e (s := mHa) (by simp)
  have g1 := spanP_rg (m := mTi) (by simp [marks7]) he
  have g2 := spanP_rg (m := mHa) (by simp [marks7]) he
  obtain ⟨t, w1, w2⟩ := within_ok g1 g2 (by omega) (by omega)
  have hr := hat_run he
  have o : ra [(pl e, pl (topE mHa e))] = .tuple [.tuple [Datum.toD e, Datum.toD (topE mHa e)]] := by rw [ra1, at_pl he, at_pl p1]
  rw [← o, ← z2] at hr
  have hx : dIx (Datum.toD e) (.int 0) = some (.int e.a) := rfl
  have ht : 0 < e.a → t = true := fun h => w2.mpr fun x hm => by
    rw [z1, mem_one] at hm
    rw [z2, mem_one]
    have := tops he h
    omega
  generalize toldD seven e = T at *
  by_cases c : 0 < e.a
  · rw [ht c] at w1
    simp [t1, t2, hr, hx, c, w1]
  · simp [t1, t2, hr, hx, c]
theorem law_0_11 (S X : D) (u : O) {o1 : List Pr} {n : Nat} (h1 : Rg n o1) (hn : n ≤ 50) (b : D) {e : Ed} (he : EdR e) (T : Sl) (v8 v9 v10 : Sl) : ∃ l : Unit, S_law_0_11 [.imm S, .imm X, .own u, .imm (ra o1), .imm b, .imm (Datum.toD e), .imm (.str (tE e)), T, v8, v9, v10] = .nx [.imm S, .imm X, .own u, .imm (ra o1), .imm b, .imm (Datum.toD e), .imm (.str (tE e)), T, v8, v9, .imm (ra (spanP mTi e))] := by
  refine ⟨(), ?_⟩
  have r := read_sign (m := mTi) (by simp [marks7]) he
  have g1 := spanP_rg (m := mTi) (by simp [marks7]) he
  have ha : Rg 1 [((0 : Int), (999999 : Int))] := ⟨⟨by omega, by omega, by omega, trivial⟩, by simp⟩
  obtain ⟨c, k1, k2, k3⟩ := either_ok h1 ha (by omega) (by omega)
  obtain ⟨d, j1, j2, j3⟩ := both_ok g1 k2 (by omega) (by omega)
  have hd : d = spanP mTi e := mk_ra j2 g1 fun x => by
    rw [j3, k3, mem_any]
    exact ⟨fun h => h.1, fun h => ⟨h, .inr (g1.can.low h)⟩⟩
  rw [hd] at j1
  have o : k_ANY = ra [(0, 999999)] := rfl
  have l1 := tE_len he
  have l2 : mTi.length = 1 := rfl
  simp (disch := omega) [-q_size, -q_nLc, -q_nLc2, -getElem?_pos, -getElem?_neg, List.getElem?_cons_zero, List.getElem?_cons_succ, if_sz, if_sl, if_le, if_lt, if_log, rp_sn, o, r, k1, j1, l2]
theorem law_0_12 (S X a b : D) (u : O) {e : Ed} (he : EdR e) (T v8 v9 : Sl) : S_law_0_12 [.imm S, .imm X, .own u, .imm a, .imm b, .imm (Datum.toD e), .imm (.str (tE e)), T, v8, v9, .imm (ra (spanP mTi e))] = .nx [.imm S, .imm X, .own u, .imm a, .imm b, .imm (Datum.toD e), .imm (.str (tE e)), T, v8, v9, .imm (ra (spanP mTi e))] := by
  have hp := pl_rng he
  obtain ⟨z1, z2⟩ := two_sp e
  obtain ⟨_, p1, p2⟩ := top_ok (m := mTi) he
  have g1 := spanP_rg (m := mTi) (by simp [marks7]) he
  have hc := count_ok g1 (by omega)
  have hl := pl_rng p1
  have hv : pl (topE mTi e) = pl e - e.c + 99 := by
    unfold topE
    rw [if_pos rfl]
    unfold pl
    simp only
    omega
  obtain ⟨_, _, hc9⟩ := he
  have ht := tot_cnt (hi := 999999) (n := 1000000) (by omega) (lo := 0) (Int.le_refl _) g1.can
  rw [← ht] at hc
  have hw := walked_one (l := pl e) (h := pl (topE mTi e)) hp.1 p2 hl.2 (by omega)
  rw [z1] at hc ⊢
  have e1 : tot [(pl e, pl (topE mTi e))] = 100 - e.c := by
    unfold tot
    simp only [List.map_cons, List.map_nil, List.sum_cons, List.sum_nil]
    omega
  have e2 : pl (topE mTi e) - pl e + 1 = 100 - e.c := by omega
  rw [e1] at hc
  rw [e2] at hw
  have hx : dIx (Datum.toD e) (.int 2) = some (.int e.c) := rfl
  have q := (ne_dat (100 - e.c) (100 - e.c)).trans (congrArg (fun b => some (PyData.bool b)) (by simp : (!decide (100 - e.c = 100 - e.c)) = false))
  have q : dNe (.int (100 - e.c)) (.int (100 - e.c)) = some (.bool false) := q
  simp [hc, hw, hx, q]
end G

set_option maxHeartbeats 1000000
/-! k33: the law -/
namespace G
open PySem Dt Dm Dk Rn
open L2 (atI ixN)
open PySem.W (Datum DatumOrd Tup T3 T4)
open TL (tl spl numL pre joinL)
def RL (S : D) (ss : SS) : Prop := ∃ v1 v2 v3 v4 v5 v6 v7 v8 v9 v10, ss = [.imm S, v1, v2, v3, v4, v5, v6, v7, v8, v9, v10]
theorem rg_r9 {n : Nat} {ps : List Pr} (h : Rg n ps) : ∀ p ∈ ps, R9 p := can_all h.can (Int.le_refl _)
theorem cell_ok (S : D) (x : Int) (ss : SS) (hR : RL S ss) : ∃ s1 s2, gN 1 (.int x) ss = some s1 ∧ (L_law_0 s1 = .nx s2 ∨ L_law_0 s1 = .ct s2) ∧ RL S s2 := by
  obtain ⟨v1, v2, v3, v4, v5, v6, v7, v8, v9, v10, rfl⟩ := hR
  obtain ⟨o, e0, d0⟩ := deck_spec x 0
  rw [show ((0 : Nat) : Int) = 0 from rfl] at e0
  have k0 : S_law_0_0 [.imm S, .imm (.int x), v2, v3, v4, v5, v6, v7, v8, v9, v10] = .nx [.imm S, .imm (.int x), .own o, v3, v4, v5, v6, v7, v8, v9, v10] := by simp [deck_is, e0]
  obtain ⟨p, u1, e1, r1, d1⟩ := law_span_ok d0 (by omega)
  obtain ⟨q, u2, e2, r2, d2⟩ := law_span_ok d1 (by omega)
  have k1 : S_law_0_1 [.imm S, .imm (.int x), .own o, v3, v4, v5, v6, v7, v8, v9, v10] = .nx [.imm S, .imm (.int x), .own u2, .imm (ra p), .imm (ra q), v5, v6, v7, v8, v9, v10] := by
    simp [sPar, e1, e2]
  have p9 := rg_r9 r1
  have q9 := rg_r9 r2
  have lp := r1.len
  have lq := r2.len
  have w1 := show_ra p9 (by omega)
  have w2 := show_ra q9 (by omega)
  have l1 := shR_len p9 (by omega)
  have l2 := shR_len q9 (by omega)
  obtain ⟨c, n, c1, c2, c3⟩ := read_two p9 q9 (by omega) (by omega)
  obtain ⟨d, f1, f2, f3⟩ := either_ok r1 r2 (by omega) (by omega)
  have hcd : c = d := mk_ra c2 f2 fun x => by rw [c3, f3]
  rw [← hcd] at f1
  have hs := ne_same c
  have lb : barS.length = 3 := rfl
  have k2 : S_law_0_2 [.imm S, .imm (.int x), .own u2, .imm (ra p), .imm (ra q), v5, v6, v7, v8, v9, v10] = .nx [.imm S, .imm (.int x), .own u2, .imm (ra p), .imm (ra q), v5, v6, v7, v8, v9, v10] := by simp (disch := omega) [-q_size, -q_nLc, -q_nLc2, -getElem?_pos, -getElem?_neg, List.getElem?_cons_zero, List.getElem?_cons_succ, if_sz, if_sl, if_le, if_lt, if_log, rp_sn, w1, w2, c1, f1, hs, lb]
  obtain ⟨ex, ey, ez, u3, e3, hx, hy, hz, d3⟩ := edition_ok d2 (by omega)
  have he : EdR ⟨ex, ey, ez⟩ := ⟨hx, hy, hz⟩
  generalize (T3.mk ex ey ez : Ed) = e at *
  have k3 : S_law_0_3 [.imm S, .imm (.int x), .own u2, .imm (ra p), .imm (ra q), v5, v6, v7, v8, v9, v10] = .nx [.imm S, .imm (.int x), .own u3, .imm (ra p), .imm (ra q), .imm (Datum.toD e), v6, v7, v8, v9, v10] := by simp [e3]
  have se := show_ed he
  have k4 : S_law_0_4 [.imm S, .imm (.int x), .own u3, .imm (ra p), .imm (ra q), .imm (Datum.toD e), v6, v7, v8, v9, v10] = .nx [.imm S, .imm (.int x), .own u3, .imm (ra p), .imm (ra q), .imm (Datum.toD e), .imm (.str (tE e)), v7, v8, v9, v10] := by simp [se]
  have k5 : S_law_0_5 [.imm S, .imm (.int x), .own u3, .imm (ra p), .imm (ra q), .imm (Datum.toD e), .imm (.str (tE e)), v7, v8, v9, v10] = .nx [.imm S, .imm (.int x), .own u3, .imm (ra p), .imm (ra q), .imm (Datum.toD e), .imm (.str (tE e)), .own (.dct []), v8, v9, v10] := by simp
  obtain ⟨u4, w8, w9, k6⟩ := signs_run S (.int x) (ra p) (ra q) d3 (by omega) he v8 v9 v10
  have k7 := law_0_7 S (.int x) (ra p) (ra q) u4 he w8 w9 v10
  have k8 := law_0_8 S (.int x) (ra p) (ra q) u4 he w8 w9 v10
  have k9 := law_0_9 S (.int x) (ra p) (ra q) u4 he w8 w9 v10
  have k10 := law_0_10 S (.int x) (ra p) (ra q) u4 he w8 w9 v10
  obtain ⟨_, k11⟩ := law_0_11 S (.int x) u4 r1 (by omega) (ra q) he (.imm (.dict (toldD seven e))) w8 w9 v10
  have k12 := law_0_12 S (.int x) (ra p) (ra q) u4 he (.imm (.dict (toldD seven e))) w8 w9
  have hB : L_law_0 [.imm S, .imm (.int x), v2, v3, v4, v5, v6, v7, v8, v9, v10] = .nx [.imm S, .imm (.int x), .own u4, .imm (ra p), .imm (ra q), .imm (Datum.toD e), .imm (.str (tE e)), .imm (.dict (toldD seven e)), w8, w9, .imm (ra (spanP mTi e))] := by
    unfold L_law_0
    rw [seq_nx k0, seq_nx k1, seq_nx k2, seq_nx k3, seq_nx k4, seq_nx k5, seq_nx k6, seq_nx k7, seq_nx k8, seq_nx k9, seq_nx k10, seq_nx k11, k12]
  exact ⟨_, _, rfl, .inl hB, ⟨_, _, _, _, _, _, _, _, _, _, rfl⟩⟩
theorem law_true (ns : List Int) (h : ns.length ≤ 63) : ∃ args, F_law [.imm (.list (ns.map .int))] = some (.imm (.bool true), args) :=
  law_end (N := 11) (k := 6) (B := B_law) (bd := L_law_0) rfl (RL (.list (ns.map .int))) ⟨_, _, _, _, _, _, _, _, _, _, rfl⟩ (fun x ss hR => cell_ok _ x ss hR) h
end G

open PySem PySem.W PyProof.Rows
set_option maxHeartbeats 0 in
theorem PySem.Challenge.cw_wareyard_k33_whole_bounds_read_together_holds : PySem.Challenge.rw_wareyard_k33_whole_bounds_read_together.Holds := by
  w_on; o_law; k_head; (case hw => w_witness2)
  k_fill
  refine L2.walk_of (l := PySem.Challenge.rw_wareyard_k33_whole_bounds_read_together) (n := 63) (k := 6) (x := "script") (CX := fun _ => L2.CX0) (sp := fun w => Dt.spLaw ⟨_, w⟩) rfl (by decide) rfl ⟨rfl, by decide, by decide⟩ (fun w h Y => PySem.W.kIn_of Y) ?F (fun _ _ a ns hl o hS => Dt.law_in hl o hS) (fun _ _ _ _ _ h => h)
  case F =>
    intro w mg fa h KX Gn hmg
    have T : G.Txt ⟨L2.KOf KX, w⟩ mg := by
      unfold L2.KOf
      refine' ⟨(Dt.no_mk KX Gn ?n_all),
        (Dt.no_mk KX Gn ?n_any),
        (Dt.no_mk KX Gn ?n_int),
        (Dt.no_mk KX Gn ?n_isinstance),
        (Dt.no_mk KX Gn ?n_len),
        (Dt.no_mk KX Gn ?n_max),
        (Dt.no_mk KX Gn ?n_min),
        (Dt.no_mk KX Gn ?n_range),
        (Dt.no_mk KX Gn ?n_sorted),
        (Dt.no_mk KX Gn ?n_str),
        (Dt.no_mk KX Gn ?n_sum),
        (Dt.no_mk KX Gn ?n_tuple),
        (Dt.gl_mk KX Gn ?z_MOST .int),
        (Dt.gl_mk KX Gn ?z_LAST (Dt.kt ?g_LAST_0 (.cons .int (.cons .int (.cons .int .nil))))),
        (Dt.gl_mk KX Gn ?z_FIGURES .str),
        (Dt.gl_mk KX Gn ?z_FIRST (Dt.kt ?g_FIRST_0 (.cons .int (.cons .int (.cons .int .nil))))),
        (Dt.gl_mk KX Gn ?z_ANY (Dt.kt ?g_ANY_0 (.cons (Dt.kt ?g_ANY_1 (.cons (Dt.kt ?g_ANY_2 (.cons .int (.cons .int (.cons .int .nil)))) (.cons (Dt.kt ?g_ANY_3 (.cons .int (.cons .int (.cons .int .nil)))) .nil))) .nil))),
        (Dt.gl_mk KX Gn ?z_NONE (Dt.kt ?g_NONE_0 .nil)),
        (Dt.gl_mk KX Gn ?z_MOST_BOUNDS .int),
        (Dt.at_mk KX Gn ?a_place_of ?l_place_of ?c_place_of ?k_place_of fun _ _ _ _ _ _ us hl => match us, hl with | [_], _ => rfl),
        (Dt.at_mk KX Gn ?a_edition_at ?l_edition_at ?c_edition_at ?k_edition_at fun _ _ _ _ _ _ us hl => match us, hl with | [_], _ => rfl),
        (Dt.at_mk KX Gn ?a_follows ?l_follows ?c_follows ?k_follows fun _ _ _ _ _ _ us hl => match us, hl with | [_], _ => rfl),
        (Dt.at_mk KX Gn ?a_show_edition ?l_show_edition ?c_show_edition ?k_show_edition fun _ _ _ _ _ _ us hl => match us, hl with | [_], _ => rfl),
        (Dt.at_mk KX Gn ?a_number_in ?l_number_in ?c_number_in ?k_number_in fun _ _ _ _ _ _ us hl => match us, hl with | [_, _], _ => rfl),
        (Dt.at_mk KX Gn ?a_read_edition ?l_read_edition ?c_read_edition ?k_read_edition fun _ _ _ _ _ _ us hl => match us, hl with | [_], _ => rfl),
        (Dt.at_mk KX Gn ?a_spans_of ?l_spans_of ?c_spans_of ?k_spans_of fun _ _ _ _ _ _ us hl => match us, hl with | [_], _ => rfl),
        (Dt.at_mk KX Gn ?a_joined ?l_joined ?c_joined ?k_joined fun _ _ _ _ _ _ us hl => match us, hl with | [_], _ => rfl),
        (Dt.at_mk KX Gn ?a_both ?l_both ?c_both ?k_both fun _ _ _ _ _ _ us hl => match us, hl with | [_, _], _ => rfl),
        (Dt.at_mk KX Gn ?a_either ?l_either ?c_either ?k_either fun _ _ _ _ _ _ us hl => match us, hl with | [_, _], _ => rfl),
        (Dt.at_mk KX Gn ?a_rest ?l_rest ?c_rest ?k_rest fun _ _ _ _ _ _ us hl => match us, hl with | [_], _ => rfl),
        (Dt.at_mk KX Gn ?a_has ?l_has ?c_has ?k_has fun _ _ _ _ _ _ us hl => match us, hl with | [_, _], _ => rfl),
        (Dt.at_mk KX Gn ?a_is_within ?l_is_within ?c_is_within ?k_is_within fun _ _ _ _ _ _ us hl => match us, hl with | [_, _], _ => rfl),
        (Dt.at_mk KX Gn ?a_count ?l_count ?c_count ?k_count fun _ _ _ _ _ _ us hl => match us, hl with | [_], _ => rfl),
        (Dt.at_mk KX Gn ?a_show_stretch ?l_show_stretch ?c_show_stretch ?k_show_stretch fun _ _ _ _ _ _ us hl => match us, hl with | [_, _], _ => rfl),
        (Dt.at_mk KX Gn ?a_show_range ?l_show_range ?c_show_range ?k_show_range fun _ _ _ _ _ _ us hl => match us, hl with | [_], _ => rfl),
        (Dt.at_mk KX Gn ?a_top_of ?l_top_of ?c_top_of ?k_top_of fun _ _ _ _ _ _ us hl => match us, hl with | [_, _], _ => rfl),
        (Dt.at_mk KX Gn ?a_bound_range ?l_bound_range ?c_bound_range ?k_bound_range fun _ _ _ _ _ _ us hl => match us, hl with | [_], _ => rfl),
        (Dt.at_mk KX Gn ?a_part_range ?l_part_range ?c_part_range ?k_part_range fun _ _ _ _ _ _ us hl => match us, hl with | [_], _ => rfl),
        (Dt.at_mk KX Gn ?a_read_range ?l_read_range ?c_read_range ?k_read_range fun _ _ _ _ _ _ us hl => match us, hl with | [_], _ => rfl),
        (Dt.at_mk KX Gn ?a__law_deck ?l__law_deck ?c__law_deck ?k__law_deck fun _ _ _ _ _ _ us hl => match us, hl with | [_, _], _ => rfl),
        (Dt.at_mk KX Gn ?a__law_pick ?l__law_pick ?c__law_pick ?k__law_pick fun _ _ _ _ _ _ us hl => match us, hl with | [_, _], _ => rfl),
        (Dt.at_mk KX Gn ?a__law_edition ?l__law_edition ?c__law_edition ?k__law_edition fun _ _ _ _ _ _ us hl => match us, hl with | [_], _ => rfl),
        (Dt.at_mk KX Gn ?a__law_place ?l__law_place ?c__law_place ?k__law_place fun _ _ _ _ _ _ us hl => match us, hl with | [_], _ => rfl),
        (Dt.at_mk KX Gn ?a__law_at ?l__law_at ?c__law_at ?k__law_at fun _ _ _ _ _ _ us hl => match us, hl with | [_], _ => rfl),
        (Dt.at_mk KX Gn ?a__law_joined ?l__law_joined ?c__law_joined ?k__law_joined fun _ _ _ _ _ _ us hl => match us, hl with | [_], _ => rfl),
        (Dt.at_mk KX Gn ?a__law_span ?l__law_span ?c__law_span ?k__law_span fun _ _ _ _ _ _ us hl => match us, hl with | [_], _ => rfl),
        (Dt.at_mk KX Gn ?a__law_hat_right ?l__law_hat_right ?c__law_hat_right ?k__law_hat_right fun _ _ _ _ _ _ us hl => match us, hl with | [_, _], _ => rfl),
        (Dt.at_mk KX Gn ?a__law_walked ?l__law_walked ?c__law_walked ?k__law_walked fun _ _ _ _ _ _ us hl => match us, hl with | [_], _ => rfl),
        (Dt.at_mk KX Gn ?a_law ?l_law ?c_law ?k_law fun _ _ _ _ _ _ us hl => match us, hl with | [_], _ => rfl)⟩
      (case n_all => k_is)
      (case n_any => k_is)
      (case n_int => k_is)
      (case n_isinstance => k_is)
      (case n_len => k_is)
      (case n_max => k_is)
      (case n_min => k_is)
      (case n_range => k_is)
      (case n_sorted => k_is)
      (case n_str => k_is)
      (case n_sum => k_is)
      (case n_tuple => k_is)
      (case z_MOST => k_is)
      (case z_LAST => k_is)
      (case g_LAST_0 => k_is)
      (case z_FIGURES => k_is)
      (case z_FIRST => k_is)
      (case g_FIRST_0 => k_is)
      (case z_ANY => k_is)
      (case g_ANY_0 => k_is)
      (case g_ANY_1 => k_is)
      (case g_ANY_2 => k_is)
      (case g_ANY_3 => k_is)
      (case z_NONE => k_is)
      (case g_NONE_0 => k_is)
      (case z_MOST_BOUNDS => k_is)
      (case a_place_of => k_is)
      (case l_place_of => k_is)
      (case c_place_of => k_is)
      (case k_place_of => k_is)
      (case a_edition_at => k_is)
      (case l_edition_at => k_is)
      (case c_edition_at => k_is)
      (case k_edition_at => k_is)
      (case a_follows => k_is)
      (case l_follows => k_is)
      (case c_follows => k_is)
      (case k_follows => k_is)
      (case a_show_edition => k_is)
      (case l_show_edition => k_is)
      (case c_show_edition => k_is)
      (case k_show_edition => k_is)
      (case a_number_in => k_is)
      (case l_number_in => k_is)
      (case c_number_in => k_is)
      (case k_number_in => k_is)
      (case a_read_edition => k_is)
      (case l_read_edition => k_is)
      (case c_read_edition => k_is)
      (case k_read_edition => k_is)
      (case a_spans_of => k_is)
      (case l_spans_of => k_is)
      (case c_spans_of => k_is)
      (case k_spans_of => k_is)
      (case a_joined => k_is)
      (case l_joined => k_is)
      (case c_joined => k_is)
      (case k_joined => k_is)
      (case a_both => k_is)
      (case l_both => k_is)
      (case c_both => k_is)
      (case k_both => k_is)
      (case a_either => k_is)
      (case l_either => k_is)
      (case c_either => k_is)
      (case k_either => k_is)
      (case a_rest => k_is)
      (case l_rest => k_is)
      (case c_rest => k_is)
      (case k_rest => k_is)
      (case a_has => k_is)
      (case l_has => k_is)
      (case c_has => k_is)
      (case k_has => k_is)
      (case a_is_within => k_is)
      (case l_is_within => k_is)
      (case c_is_within => k_is)
      (case k_is_within => k_is)
      (case a_count => k_is)
      (case l_count => k_is)
      (case c_count => k_is)
      (case k_count => k_is)
      (case a_show_stretch => k_is)
      (case l_show_stretch => k_is)
      (case c_show_stretch => k_is)
      (case k_show_stretch => k_is)
      (case a_show_range => k_is)
      (case l_show_range => k_is)
      (case c_show_range => k_is)
      (case k_show_range => k_is)
      (case a_top_of => k_is)
      (case l_top_of => k_is)
      (case c_top_of => k_is)
      (case k_top_of => k_is)
      (case a_bound_range => k_is)
      (case l_bound_range => k_is)
      (case c_bound_range => k_is)
      (case k_bound_range => k_is)
      (case a_part_range => k_is)
      (case l_part_range => k_is)
      (case c_part_range => k_is)
      (case k_part_range => k_is)
      (case a_read_range => k_is)
      (case l_read_range => k_is)
      (case c_read_range => k_is)
      (case k_read_range => k_is)
      (case a__law_deck => k_is)
      (case l__law_deck => k_is)
      (case c__law_deck => k_is)
      (case k__law_deck => k_is)
      (case a__law_pick => k_is)
      (case l__law_pick => k_is)
      (case c__law_pick => k_is)
      (case k__law_pick => k_is)
      (case a__law_edition => k_is)
      (case l__law_edition => k_is)
      (case c__law_edition => k_is)
      (case k__law_edition => k_is)
      (case a__law_place => k_is)
      (case l__law_place => k_is)
      (case c__law_place => k_is)
      (case k__law_place => k_is)
      (case a__law_at => k_is)
      (case l__law_at => k_is)
      (case c__law_at => k_is)
      (case k__law_at => k_is)
      (case a__law_joined => k_is)
      (case l__law_joined => k_is)
      (case c__law_joined => k_is)
      (case k__law_joined => k_is)
      (case a__law_span => k_is)
      (case l__law_span => k_is)
      (case c__law_span => k_is)
      (case k__law_span => k_is)
      (case a__law_hat_right => k_is)
      (case l__law_hat_right => k_is)
      (case c__law_hat_right => k_is)
      (case k__law_hat_right => k_is)
      (case a__law_walked => k_is)
      (case l__law_walked => k_is)
      (case c__law_walked => k_is)
      (case k__law_walked => k_is)
      (case a_law => k_is)
      (case l_law => k_is)
      (case c_law => k_is)
      (case k_law => k_is)
    obtain ⟨f, fd, Fl, m, bi⟩ := T.a_law
    have e := hmg.symm.trans m
    cases e
    refine ⟨fd, fun s u => ?_, fun base _ _ => (G.fn_law T Fl).imp (Dt.law_imp G.law_true)⟩
    exact Dt.bind1 bi s u
