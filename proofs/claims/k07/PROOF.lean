import PyProof.Rows.All
import Wide.All
import OpenK.AllK
import Wide.FinOn
import HandS.ForMost
import HandS.Wide
import KE.KDictKeyed
import HandS.TupAny
import HandS.IsInst
import HandS.Style
import HandS.Deep
import HandS.TupMul
import KE.LtData
import KE.DataCmp
import KE.SortData
import KE.DataEq
import PyProof.StrOps2
import KE.KDictCopyH
import KE.KDictSum
import HandS.More
import HandS.SetKeys
import HandS.TupLen
import HandS.Text
import HandS.Codes
import HandS.SortInts
import HandS.RaiseMore
import HandS.FStr
import HandS.Zip
import HandS.TryOnly
import HandS.SetFor
import HandS.Strs
import HandS.Replace
import HandS.DictComp
import PyProof.CollectIter
import HandS.SetTxt0
import KE.GoesMore
import PyProof.Draws
import PyProof.EnumMake
import HandS.Sort
import KE.KDictPairs
import KE.DatumOrd
import KE.DatumMore
import KE.DatumMoreOrd
import PySem.Challenge.RW_wareyard_k07_whole_what_wares_ask
set_option Elab.async false
set_option linter.all false
set_option maxRecDepth 100000
/-! Dt0: data by value over the hand layer: what a value stands for (Rep), a frame's slots (FR), expressions, statements, calls as plain functions. -/
namespace Dt
open PySem PySem.Spec L2
open PyProof.Rows hiding St

abbrev D := PyData
/-- the written part, and the world (what hash(text) is) -/
structure Fg where
  k : PySem.W.Frag
  w : World
instance : Coe Fg PySem.W.Frag := ⟨Fg.k⟩
abbrev _root_.L2.Cx.F (X : Cx) : Fg := ⟨X.K, X.w⟩

/-- what stays: tuples and what is locked -/
structure Kp (H H' : Hp) : Prop where
  tup : ∀ a xs, H a = some (.tup xs) → H' a = some (.tup xs)
  frz : ∀ a o u, H a = some (.frz o u) → H' a = some (.frz o u)
theorem Kp.refl (H : Hp) : Kp H H := ⟨fun _ _ h => h, fun _ _ _ h => h⟩
theorem Kp.trans {H H1 H2 : Hp} (a : Kp H H1) (b : Kp H1 H2) : Kp H H2 := ⟨fun x o h => b.tup _ _ (a.tup _ _ h), fun x o u h => b.frz _ _ _ (a.frz _ _ _ h)⟩
theorem Kp.same {H H' : Hp} (h : Same H H') : Kp H H' := ⟨fun _ _ e => h _ _ e, fun _ _ _ e => h _ _ e⟩
theorem same_new {H : Hp} {p : Addr} {o : HO} (h : H p = none) : Same H (upd H p o) := fun b x e => by
  rw [upd_ne (ne_of_none e h)]
  exact e
/-- what may be changed: no tuple, nothing locked -/
def Loose (o : HO) : Prop := (∀ xs, o ≠ .tup xs) ∧ ∀ b u, o ≠ .frz b u
theorem loose_lst {xs : List V} : Loose (.lst xs) := ⟨fun _ h => (nomatch h), fun _ _ h => (nomatch h)⟩
theorem loose_dK {xs : List (Key × V)} : Loose (.dK xs) := ⟨fun _ h => (nomatch h), fun _ _ h => (nomatch h)⟩
theorem loose_dT {xs : List (List Key × V)} : Loose (.dT xs) := ⟨fun _ h => (nomatch h), fun _ _ h => (nomatch h)⟩
theorem loose_ins {C dx : Addr} {fs : List (Str × V)} : Loose (.ins C dx fs) := ⟨fun _ h => (nomatch h), fun _ _ h => (nomatch h)⟩
theorem loose_ext {φ : Heap → Prop} : Loose (.ext φ) := ⟨fun _ h => (nomatch h), fun _ _ h => (nomatch h)⟩
theorem Kp.upd {H : Hp} {p : Addr} {o u : HO} (h : H p = some o) (l : Loose o) : Kp H (upd H p u) := ⟨fun a xs e => by
    rw [upd_ne (ne_of e h fun z => l.1 _ z.symm)]; exact e, fun a b x e => by
    rw [upd_ne (ne_of e h fun z => l.2 _ _ z.symm)]; exact e⟩

def keyD : Key → D
  | .inl i => .int i
  | .inr x => .str x

/-- a dict whose keys are tuples (of ints, texts, None, tuples): what is true of its object -/
def NdOk (w : World) (a : Addr) (kks : List NestedKey) (kvs : List (V × V)) (h : Heap) : Prop :=
  kvs.length ≤ sizeLine ∧ (a == sysModules) = false ∧ kks.Nodup ∧ ∃ xs : List (NestedKey × Addr × Value), xs.map (·.1) = kks ∧
    Paired (fun (p : V × V) (q : NestedKey × Addr × Value) => p.1 = .ref q.2.1 ∧ RelV p.2 q.2.2) kvs xs ∧
    ∃ o es ep, h.get? a = some o ∧ o.ExactDict ∧ o.data = .dict es ep ∧ es.toList = xs.map fun x => ⟨x.1.hash w, .ref x.2.1, x.2.2⟩
abbrev NdO (w : World) (a : Addr) (kks : List NestedKey) (kvs : List (V × V)) : HO := .ext (NdOk w a kks kvs)
def kOk (k : NestedKey) : Bool := decide (k.depth ≤ 8) && match k with | .tup _ => true | _ => false
/-- dicts as data: those with tuple keys are marked; instances, defs likewise -/
def ndD (kvs : List (D × D)) : D := .dict ((.list [], .none) :: kvs)
def insD (c : Str) (kvs : List (D × D)) : D := .dict ((.none, .str c) :: kvs)
def fnD (n : Str) : D := .dict [(.none, .none), (.none, .str n)]
/-- a list that is locked, or the module's own -/
def LstF (K : Fg) (H : Hp) (a : Addr) (xs : List V) : Prop :=
  (∃ o, H a = some (.frz o (.lst xs))) ∨
    ∃ (o : Obj) (its : Array Value) (n : Nat), K.k.lookup a = some o ∧ o.cls = .type "list" ∧ o.dict = none ∧ o.data = .seq its n ∧ its.size ≤ sizeLine ∧ Vals xs its.toList
theorem LstF.sq {K : Fg} {H : Hp} {a : Addr} {xs : List V} (h : LstF K H a xs) : SqL K H a xs := by
  rcases h with ⟨o, h⟩ | h
  · exact .inl (.inr ⟨o, h⟩)
  · exact .inr h
theorem LstF.kp {K : Fg} {H H' : Hp} {a : Addr} {xs : List V} (k : Kp H H') (h : LstF K H a xs) : LstF K H' a xs := by
  rcases h with ⟨o, h⟩ | h
  · exact .inl ⟨o, k.frz _ _ _ h⟩
  · exact .inr h
theorem sqT_kp {K : Fg} {H H' : Hp} {a : Addr} {xs : List V} (k : Kp H H') (h : SqT K H a xs) : SqT K H' a xs := by
  rcases h with (h | ⟨o, h⟩) | h
  · exact .inl (.inl (k.tup _ _ h))
  · exact .inl (.inr ⟨o, k.frz _ _ _ h⟩)
  · exact .inr h

mutual
/-- the value stands for the data; nothing of it is changed any more -/
inductive Rep (K : Fg) (H : Hp) : V → D → Prop
  | non : Rep K H .non .none
  | bl (b : Bool) : Rep K H (.bl b) (.bool b)
  | int (i : Int) : Rep K H (.int i) (.int i)
  | str (x : Str) : Rep K H (.str x) (.str x)
  | lst {a : Addr} {xs : List V} {ds : List D} : LstF K H a xs → RepAll K H xs ds → Rep K H (.ref a) (.list ds)
  | tup {a : Addr} {xs : List V} {ds : List D} : SqT K H a xs → RepAll K H xs ds → Rep K H (.ref a) (.tuple ds)
  | dK {a : Addr} {o : Obj} {kvs : List (Key × V)} {ds : List D} : H a = some (.frz o (.dK kvs)) → RepAll K H (kvs.map (·.2)) ds → Rep K H (.ref a) (.dict ((kvs.map fun p => keyD p.1).zip ds))
  | dN {a : Addr} {o : Obj} {kks : List NestedKey} {kvs : List (V × V)} {ds : List D} : H a = some (.frz o (NdO K.w a kks kvs)) → kks.all kOk = true → RepAll K H (kvs.map (·.1)) (kks.map NestedKey.data) → RepAll K H (kvs.map (·.2)) ds → Rep K H (.ref a) (ndD ((kks.map NestedKey.data).zip ds))
  | ins {a C dx : Addr} {o : Obj} {fs : List (Str × V)} {c : Str} {ds : List D} : H a = some (.frz o (.ins C dx fs)) → PySem.W.nsIn K.k mainGlobals c = some (some (.ref C)) → RepAll K H (fs.map (·.2)) ds → Rep K H (.ref a) (insD c ((fs.map fun p => .str p.1).zip ds))
  | fn {a : Addr} {n : Str} : PySem.W.nsIn K.k mainGlobals n = some (some (.ref a)) → Rep K H (.ref a) (fnD n)
inductive RepAll (K : Fg) (H : Hp) : List V → List D → Prop
  | nil : RepAll K H [] []
  | cons {v : V} {vs : List V} {d : D} {ds : List D} : Rep K H v d → RepAll K H vs ds → RepAll K H (v :: vs) (d :: ds)
end
mutual
theorem Rep.kp {K : Fg} {H H' : Hp} (k : Kp H H') : ∀ {v : V} {d : D}, Rep K H v d → Rep K H' v d
  | _, _, .non => .non
  | _, _, .bl b => .bl b
  | _, _, .int i => .int i
  | _, _, .str x => .str x
  | _, _, .lst h r => .lst (h.kp k) (RepAll.kp k r)
  | _, _, .tup h r => .tup (sqT_kp k h) (RepAll.kp k r)
  | _, _, .dK h r => .dK (k.frz _ _ _ h) (RepAll.kp k r)
  | _, _, .dN h c q r => .dN (k.frz _ _ _ h) c (RepAll.kp k q) (RepAll.kp k r)
  | _, _, .ins h c r => .ins (k.frz _ _ _ h) c (RepAll.kp k r)
  | _, _, .fn h => .fn h
theorem RepAll.kp {K : Fg} {H H' : Hp} (k : Kp H H') : ∀ {vs : List V} {ds : List D}, RepAll K H vs ds → RepAll K H' vs ds
  | _, _, .nil => .nil
  | _, _, .cons h r => .cons (Rep.kp k h) (RepAll.kp k r)
end
section
variable {K : Fg} {H : Hp}
theorem RepAll.len : ∀ {vs : List V} {ds : List D}, RepAll K H vs ds → vs.length = ds.length
  | _, _, .nil => rfl
  | _, _, .cons _ r => by rw [List.length_cons, List.length_cons, RepAll.len r]
theorem RepAll.append : ∀ {vs ws : List V} {ds es : List D}, RepAll K H vs ds → RepAll K H ws es → RepAll K H (vs ++ ws) (ds ++ es)
  | _, _, _, _, .nil, s => s
  | _, _, _, _, .cons h r, s => .cons h (RepAll.append r s)
theorem RepAll.get : ∀ {vs : List V} {ds : List D} {i : Nat} {d : D}, RepAll K H vs ds → ds[i]? = some d → ∃ v, vs[i]? = some v ∧ Rep K H v d
  | _, _, _, _, .nil, e => by simp at e
  | _, _, 0, _, .cons h _, e => by simp at e; subst e; exact ⟨_, rfl, h⟩
  | _, _, i + 1, d, .cons _ r, e => by
    obtain ⟨v, h1, h2⟩ := RepAll.get (i := i) (d := d) r (by simpa using e)
    exact ⟨v, by simpa using h1, h2⟩
theorem RepAll.getV : ∀ {vs : List V} {ds : List D} {i : Nat} {v : V}, RepAll K H vs ds → vs[i]? = some v → ∃ d, ds[i]? = some d ∧ Rep K H v d
  | _, _, _, _, .nil, e => by simp at e
  | _, _, 0, _, .cons h _, e => by simp at e; subst e; exact ⟨_, rfl, h⟩
  | _, _, i + 1, d, .cons _ r, e => by
    obtain ⟨v, h1, h2⟩ := RepAll.getV (i := i) (v := d) r (by simpa using e)
    exact ⟨v, by simpa using h1, h2⟩
theorem RepAll.take : ∀ {vs : List V} {ds : List D} (n : Nat), RepAll K H vs ds → RepAll K H (vs.take n) (ds.take n)
  | _, _, 0, _ => .nil
  | _, _, _ + 1, .nil => .nil
  | _, _, n + 1, .cons h r => .cons h (RepAll.take n r)
theorem RepAll.drop : ∀ {vs : List V} {ds : List D} (n : Nat), RepAll K H vs ds → RepAll K H (vs.drop n) (ds.drop n)
  | _, _, 0, r => r
  | _, _, _ + 1, .nil => .nil
  | _, _, n + 1, .cons _ r => RepAll.drop n r
theorem RepAll.set {v : V} {d : D} (h : Rep K H v d) : ∀ {vs : List V} {ds : List D} (i : Nat), RepAll K H vs ds → RepAll K H (vs.set i v) (ds.set i d)
  | _, _, _, .nil => .nil
  | _, _, 0, .cons _ r => .cons h r
  | _, _, i + 1, .cons q r => .cons q (RepAll.set h i r)
theorem RepAll.reverse {vs : List V} {ds : List D} (h : RepAll K H vs ds) : RepAll K H vs.reverse ds.reverse := by
  induction vs generalizing ds with
  | nil => cases h; exact .nil
  | cons v vs ih =>
    cases h with
    | cons h r =>
      rw [List.reverse_cons, List.reverse_cons]
      exact (ih r).append (.cons h .nil)
end

/-! ### a frame's slots -/
/-- what is still changed: a list, a dict -/
inductive O where
  | lst (ds : List D)
  | dct (kvs : List (D × D))
  | dnt (kvs : List (D × D))
def O.toD : O → D
  | .lst ds => .list ds
  | .dct kvs => .dict kvs
  | .dnt kvs => ndD kvs
/-- a slot: nothing that counts; data; an object of the frame's own; one of the caller's, lent -/
inductive Sl where
  | un
  | imm (d : D)
  | own (o : O)
  | bor (o : O)
abbrev SS := List Sl
def Sl.obj : Sl → Option O
  | .own o => some o
  | .bor o => some o
  | _ => none
def Sl.put (s : Sl) (o : O) : Sl := match s with
  | .own _ => .own o
  | .bor _ => .bor o
  | s => s
def OwnAt (K : Fg) (H : Hp) (p : Addr) : O → Prop
  | .lst ds => ∃ xs, H p = some (.lst xs) ∧ RepAll K H xs ds
  | .dct ds => ∃ kvs es, H p = some (.dK kvs) ∧ RepAll K H (kvs.map (·.2)) es ∧ ds = (kvs.map fun p => keyD p.1).zip es
  | .dnt ds => ∃ kks kvs es, H p = some (NdO K.w p kks kvs) ∧ kks.all kOk = true ∧ RepAll K H (kvs.map (·.1)) (kks.map NestedKey.data) ∧ RepAll K H (kvs.map (·.2)) es ∧ ds = (kks.map NestedKey.data).zip es
theorem OwnAt.kp {K : Fg} {H H' : Hp} {p : Addr} {o : O} (k : Kp H H') (e : H' p = H p) (h : OwnAt K H p o) : OwnAt K H' p o := by
  cases o with
  | lst ds => obtain ⟨xs, h1, h2⟩ := h; exact ⟨xs, e.trans h1, h2.kp k⟩
  | dct ds => obtain ⟨kvs, es, h1, h2, h3⟩ := h; exact ⟨kvs, es, e.trans h1, h2.kp k, h3⟩
  | dnt ds => obtain ⟨kks, kvs, es, h1, h0, h2, h3, h4⟩ := h; exact ⟨kks, kvs, es, e.trans h1, h0, h2.kp k, h3.kp k, h4⟩
theorem OwnAt.loose {K : Fg} {H : Hp} {p : Addr} {o : O} (h : OwnAt K H p o) : ∃ u, H p = some u ∧ Loose u ∧ Mut (some u) ∧ ∀ od, Rep K (upd H p (.frz od u)) (.ref p) o.toD := by
  cases o with
  | lst ds =>
    obtain ⟨xs, h1, h2⟩ := h
    exact ⟨_, h1, loose_lst, trivial, fun od => .lst (.inl ⟨od, upd_same⟩) (h2.kp (Kp.upd h1 loose_lst))⟩
  | dct ds =>
    obtain ⟨kvs, es, h1, h2, rfl⟩ := h
    exact ⟨_, h1, loose_dK, trivial, fun od => .dK (o := od) upd_same (h2.kp (Kp.upd h1 loose_dK))⟩
  | dnt ds =>
    obtain ⟨kks, kvs, es, h1, h0, h2, h3, rfl⟩ := h
    exact ⟨_, h1, loose_ext, trivial, fun od => .dN (o := od) upd_same h0 (h2.kp (Kp.upd h1 loose_ext)) (h3.kp (Kp.upd h1 loose_ext))⟩

/-- the heap at the entry; which slots hold lent objects, and where -/
structure Fx where
  H0 : Hp
  P : Nat → Option Addr
def SlOk (K : Fg) (fx : Fx) (H : Hp) (i : Nat) (x : Option (Option V)) : Sl → Prop
  | .un => True
  | .imm d => ∃ v, x = some (some v) ∧ Rep K H v d
  | .own o => ∃ p, x = some (some (.ref p)) ∧ OwnAt K H p o ∧ fx.H0 p = none
  | .bor o => ∃ p, x = some (some (.ref p)) ∧ OwnAt K H p o ∧ fx.P i = some p
structure FR (K : Fg) (fx : Fx) (ss : SS) (σ : St) (H : Hp) : Prop where
  len : σ.length = ss.length
  kp : Kp fx.H0 H
  rest : ∀ a o, fx.H0 a = some o → (∀ i, fx.P i ≠ some a) → H a = some o
  there : ∀ a, H a = none → fx.H0 a = none
  slot : ∀ i sl, ss[i]? = some sl → SlOk K fx H i σ[i]? sl
  dis : ∀ (i j : Nat) (p : Addr) (si sj : Sl) (oi oj : O), ss[i]? = some si → ss[j]? = some sj → si.obj = some oi → sj.obj = some oj → σ[i]? = some (some (.ref p)) → σ[j]? = some (some (.ref p)) → i = j
section
variable {K : Fg} {fx : Fx} {ss : SS} {σ : St} {H H' : Hp}
theorem SlOk.obj {i : Nat} {x : Option (Option V)} {sl : Sl} {o : O} (h : SlOk K fx H i x sl) (e : sl.obj = some o) : ∃ p, x = some (some (.ref p)) ∧ OwnAt K H p o ∧ (fx.H0 p = none ∨ fx.P i = some p) := by
  cases sl with
  | un => cases e
  | imm d => cases e
  | own u => cases e; obtain ⟨p, a, b, c⟩ := h; exact ⟨p, a, b, .inl c⟩
  | bor u => cases e; obtain ⟨p, a, b, c⟩ := h; exact ⟨p, a, b, .inr c⟩
/-- a change at a place that no slot holds -/
theorem FR.other {p : Addr} {u o : HO} (f : FR K fx ss σ H) (h0 : fx.H0 p = none) (hp : ∀ u', H p = some u' → Loose u') (hn : ∀ (i : Nat) (si : Sl) (oi : O), ss[i]? = some si → si.obj = some oi → σ[i]? ≠ some (some (.ref p))) : FR K fx ss σ (upd H p o) := by
  have k : Kp H (upd H p o) := by
    cases e : H p with
    | none => exact .same (same_new e)
    | some u' => exact .upd e (hp _ e)
  refine ⟨f.len, f.kp.trans k, fun a x e hP => ?_, fun a e => ?_, fun i sl e => ?_, f.dis⟩
  · have ne : a ≠ p := ne_of_none e h0
    rw [upd_ne ne]
    exact f.rest a x e hP
  · by_cases ea : a = p
    · rw [ea]; exact h0
    · rw [upd_ne ea] at e
      exact f.there a e
  · have q := f.slot i sl e
    cases sl with
    | un => trivial
    | imm d => obtain ⟨v, a, b⟩ := q; exact ⟨v, a, b.kp k⟩
    | own x => 
      obtain ⟨r, a, b, c⟩ := q
      have ne : r ≠ p := fun z => hn i _ x e rfl (by rw [a, z])
      exact ⟨r, a, b.kp k (upd_ne ne), c⟩
    | bor x => 
      obtain ⟨r, a, b, c⟩ := q
      have ne : r ≠ p := fun z => hn i _ x e rfl (by rw [a, z])
      exact ⟨r, a, b.kp k (upd_ne ne), c⟩
theorem FR.root {i : Nat} {si : Sl} {oi : O} {p : Addr} (f : FR K fx ss σ H) (e : ss[i]? = some si) (eo : si.obj = some oi) (es : σ[i]? = some (some (.ref p))) : ∃ u, H p = some u ∧ Loose u := by
  obtain ⟨q, a, b, _⟩ := (f.slot i si e).obj eo
  rw [a] at es
  cases es
  obtain ⟨u, h1, h2, _⟩ := b.loose
  exact ⟨u, h1, h2⟩
/-- a new object -/
theorem FR.new {p : Addr} {o : HO} (f : FR K fx ss σ H) (h : H p = none) : FR K fx ss σ (upd H p o) :=
  f.other (u := o) (f.there p h) (fun u' e => by rw [h] at e; cases e) fun i si oi e eo es => by
    obtain ⟨u, h1, _⟩ := f.root e eo es
    rw [h] at h1; cases h1
/-- a new object, tracked nowhere -/
def NewAt (fx : Fx) (ss : SS) (σ : St) (p : Addr) : Prop := fx.H0 p = none ∧ ∀ (i : Nat) (si : Sl) (oi : O), ss[i]? = some si → si.obj = some oi → σ[i]? ≠ some (some (.ref p))
theorem FR.newAt {p : Addr} (f : FR K fx ss σ H) (h : H p = none) : NewAt fx ss σ p := ⟨f.there p h, fun i si oi e eo es => by
    obtain ⟨u, h1, _⟩ := f.root e eo es
    rw [h] at h1; cases h1⟩
theorem FR.lock {p : Addr} {u o : HO} (f : FR K fx ss σ H) (n : NewAt fx ss σ p) (h : H p = some u) (l : Loose u) : FR K fx ss σ (upd H p o) :=
  f.other (u := o) n.1 (fun u' e => by rw [h] at e; cases e; exact l) n.2
theorem get_set_eq {α : Type} {l : List α} {i j : Nat} {x y : α} (h : (l.set i x)[j]? = some y) : (j = i ∧ y = x) ∨ (j ≠ i ∧ l[j]? = some y) := by
  by_cases e : j = i
  · subst e
    rw [List.getElem?_set] at h
    simp only [if_true] at h
    split at h
    · exact .inl ⟨rfl, (Option.some.inj h).symm⟩
    · cases h
  · rw [List.getElem?_set_ne (Ne.symm e)] at h
    exact .inr ⟨e, h⟩
theorem FR.lt {i : Nat} (f : FR K fx ss σ H) (h : i < ss.length) : i < σ.length := by rw [f.len]; exact h
/-- x = data -/
theorem FR.imm {i : Nat} {v : V} {d : D} (f : FR K fx ss σ H) (hi : i < ss.length) (r : Rep K H v d) : FR K fx (ss.set i (.imm d)) (σ.set i (some v)) H := by
  have hσ := f.lt hi
  refine ⟨by rw [List.length_set, List.length_set]; exact f.len, f.kp, f.rest, f.there, fun j sl e => ?_, fun j k p sj sk oj ok ej ek eoj eok hj hk => ?_⟩
  · rcases get_set_eq e with ⟨rfl, rfl⟩ | ⟨ne, e⟩
    · exact ⟨v, by rw [List.getElem?_set_self hσ], r⟩
    · rw [List.getElem?_set_ne (Ne.symm ne)]
      exact f.slot j sl e
  · rcases get_set_eq ej with ⟨rfl, rfl⟩ | ⟨nj, ej⟩
    · cases eoj
    · rcases get_set_eq ek with ⟨rfl, rfl⟩ | ⟨nk, ek⟩
      · cases eok
      · rw [List.getElem?_set_ne (Ne.symm nj)] at hj
        rw [List.getElem?_set_ne (Ne.symm nk)] at hk
        exact f.dis j k p sj sk oj ok ej ek eoj eok hj hk
/-- what a slot holds is forgotten -/
theorem FR.un {i : Nat} {x : Option V} (f : FR K fx ss σ H) : FR K fx (ss.set i .un) (σ.set i x) H := by
  refine ⟨by rw [List.length_set, List.length_set]; exact f.len, f.kp, f.rest, f.there, fun j sl e => ?_, fun j k p sj sk oj ok ej ek eoj eok hj hk => ?_⟩
  · rcases get_set_eq e with ⟨rfl, rfl⟩ | ⟨ne, e⟩
    · trivial
    · rw [List.getElem?_set_ne (Ne.symm ne)]
      exact f.slot j sl e
  · rcases get_set_eq ej with ⟨rfl, rfl⟩ | ⟨nj, ej⟩
    · cases eoj
    · rcases get_set_eq ek with ⟨rfl, rfl⟩ | ⟨nk, ek⟩
      · cases eok
      · rw [List.getElem?_set_ne (Ne.symm nj)] at hj
        rw [List.getElem?_set_ne (Ne.symm nk)] at hk
        exact f.dis j k p sj sk oj ok ej ek eoj eok hj hk
/-- x = an object of one's own -/
theorem FR.own {i : Nat} {p : Addr} {o : O} (f : FR K fx ss σ H) (hi : i < ss.length) (r : OwnAt K H p o) (n : NewAt fx ss σ p) : FR K fx (ss.set i (.own o)) (σ.set i (some (.ref p))) H := by
  have hσ := f.lt hi
  refine ⟨by rw [List.length_set, List.length_set]; exact f.len, f.kp, f.rest, f.there, fun j sl e => ?_, fun j k q sj sk oj ok ej ek eoj eok hj hk => ?_⟩
  · rcases get_set_eq e with ⟨rfl, rfl⟩ | ⟨ne, e⟩
    · exact ⟨p, by rw [List.getElem?_set_self hσ], r, n.1⟩
    · rw [List.getElem?_set_ne (Ne.symm ne)]
      exact f.slot j sl e
  · by_cases nj : j = i
    · by_cases nk : k = i
      · rw [nj, nk]
      · rw [nj, List.getElem?_set_self hσ] at hj
        cases hj
        rw [List.getElem?_set_ne (Ne.symm nk)] at ek hk
        exact absurd hk (n.2 k sk ok ek eok)
    · by_cases nk : k = i
      · rw [nk, List.getElem?_set_self hσ] at hk
        cases hk
        rw [List.getElem?_set_ne (Ne.symm nj)] at ej hj
        exact absurd hj (n.2 j sj oj ej eoj)
      · rw [List.getElem?_set_ne (Ne.symm nj)] at ej hj
        rw [List.getElem?_set_ne (Ne.symm nk)] at ek hk
        exact f.dis j k q sj sk oj ok ej ek eoj eok hj hk
theorem put_obj {si : Sl} {oi o' : O} (h : si.obj = some oi) : (si.put o').obj = some o' := by
  cases si with
  | un => cases h
  | imm d => cases h
  | own u => rfl
  | bor u => rfl
/-- the object of a slot is changed -/
theorem FR.mut {i : Nat} {p : Addr} {si : Sl} {oi o' : O} {u : HO} (f : FR K fx ss σ H) (e : ss[i]? = some si) (eo : si.obj = some oi) (es : σ[i]? = some (some (.ref p))) (new : Kp H (upd H p u) → OwnAt K (upd H p u) p o') :
    FR K fx (ss.set i (si.put o')) σ (upd H p u) ∧ Kp H (upd H p u) := by
  obtain ⟨q, a, b, c⟩ := (f.slot i si e).obj eo
  rw [a] at es
  cases es
  obtain ⟨w, h1, h2, _⟩ := b.loose
  have k : Kp H (upd H p u) := .upd h1 h2
  have lt : i < ss.length := (List.getElem?_eq_some_iff.mp e).1
  refine ⟨⟨by rw [List.length_set]; exact f.len, f.kp.trans k, fun x o ex hP => ?_, fun x ex => ?_, fun j sl ej => ?_, fun j l q sj sk oj ok ej ek eoj eok hj hk => ?_⟩, k⟩
  · have ne : x ≠ p := by
      rcases c with c | c
      · exact ne_of_none ex c
      · exact fun z => hP i (by rw [c, z])
    rw [upd_ne ne]
    exact f.rest x o ex hP
  · by_cases xp : x = p
    · rw [xp, upd_same] at ex; cases ex
    · rw [upd_ne xp] at ex
      exact f.there x ex
  · rcases get_set_eq ej with ⟨rfl, rfl⟩ | ⟨ne, ej⟩
    · have q := f.slot j si e
      cases si with
      | un => cases eo
      | imm d => cases eo
      | own z => obtain ⟨r, a1, b1, c1⟩ := q; rw [a] at a1; cases a1; exact ⟨p, a, new k, c1⟩
      | bor z => obtain ⟨r, a1, b1, c1⟩ := q; rw [a] at a1; cases a1; exact ⟨p, a, new k, c1⟩
    · have q := f.slot j sl ej
      cases sl with
      | un => trivial
      | imm d => obtain ⟨v, a1, b1⟩ := q; exact ⟨v, a1, b1.kp k⟩
      | own z => 
        obtain ⟨r, a1, b1, c1⟩ := q
        have nr : r ≠ p := fun z' => ne (f.dis j i p _ si z oi ej e rfl eo (by rw [a1, z']) a)
        exact ⟨r, a1, b1.kp k (upd_ne nr), c1⟩
      | bor z => 
        obtain ⟨r, a1, b1, c1⟩ := q
        have nr : r ≠ p := fun z' => ne (f.dis j i p _ si z oi ej e rfl eo (by rw [a1, z']) a)
        exact ⟨r, a1, b1.kp k (upd_ne nr), c1⟩
  · have oj' : ∃ sj0 oj0, ss[j]? = some sj0 ∧ sj0.obj = some oj0 := by
      rcases get_set_eq ej with ⟨rfl, rfl⟩ | ⟨_, ej⟩
      · exact ⟨si, oi, e, eo⟩
      · exact ⟨sj, oj, ej, eoj⟩
    have ok' : ∃ sj0 oj0, ss[l]? = some sj0 ∧ sj0.obj = some oj0 := by
      rcases get_set_eq ek with ⟨rfl, rfl⟩ | ⟨_, ek⟩
      · exact ⟨si, oi, e, eo⟩
      · exact ⟨sk, ok, ek, eok⟩
    obtain ⟨s1, o1, a1, b1⟩ := oj'
    obtain ⟨s2, o2, a2, b2⟩ := ok'
    exact f.dis j l q s1 s2 o1 o2 a1 a2 b1 b2 hj hk
/-- an object of one's own is locked -/
theorem FR.freeze {i : Nat} {p : Addr} {o : O} {u w : HO} (f : FR K fx ss σ H) (e : ss[i]? = some (.own o)) (es : σ[i]? = some (some (.ref p))) (hw : H p = some w) (lw : Loose w) (new : Kp H (upd H p u) → Rep K (upd H p u) (.ref p) o.toD) :
    FR K fx (ss.set i (.imm o.toD)) σ (upd H p u) ∧ Kp H (upd H p u) := by
  have k : Kp H (upd H p u) := .upd hw lw
  obtain ⟨q, a, b, c⟩ := f.slot i _ e
  rw [a] at es
  cases es
  have lt : i < ss.length := (List.getElem?_eq_some_iff.mp e).1
  have f1 : FR K fx (ss.set i .un) (σ.set i (some (.ref p))) H := f.un
  have es : σ.set i (some (.ref p)) = σ := by
    apply List.ext_getElem?
    intro j
    by_cases hj : j = i
    · subst hj
      rw [List.getElem?_set_self (f.lt lt), a]
    · rw [List.getElem?_set_ne (Ne.symm hj)]
  rw [es] at f1
  have f2 : FR K fx (ss.set i .un) σ (upd H p u) := f1.other (u := u) c (fun u' e' => by rw [hw] at e'; cases e'; exact lw) fun j sj oj ej eoj hj => by
    rcases get_set_eq ej with ⟨rfl, rfl⟩ | ⟨ne, ej⟩
    · cases eoj
    · exact ne (f.dis j i p sj _ oj o ej e eoj rfl hj a)
  have f3 := f2.imm (i := i) (by rw [List.length_set]; exact lt) (new k)
  rw [List.set_set, es] at f3
  exact ⟨f3, k⟩
end

/-! ### readings by plain functions -/
inductive Res (α : Type) where
  | no
  | ok (a : α) (ss : SS)
def Res.bind {α β : Type} (r : Res α) (g : α → SS → Res β) : Res β := match r with
  | .no => .no
  | .ok a ss => g a ss
theorem bind_ok {α β : Type} {r : Res α} {g : α → SS → Res β} {b : β} {ss : SS} (h : r.bind g = .ok b ss) : ∃ a s1, r = .ok a s1 ∧ g a s1 = .ok b ss := by
  cases r with
  | no => cases h
  | ok a s1 => exact ⟨a, s1, rfl, h⟩
def Res.of {α : Type} (o : Option α) (ss : SS) : Res α := match o with
  | some a => .ok a ss
  | none => .no
theorem of_ok {α : Type} {o : Option α} {a : α} {ss s1 : SS} (h : Res.of o ss = .ok a s1) : o = some a ∧ s1 = ss := by
  cases o with
  | none => cases h
  | some b => cases h; exact ⟨rfl, rfl⟩
/-- the ends of a statement -/
inductive Out where
  | no
  | nx (ss : SS)
  | rt (r : Sl) (ss : SS)
  | bk (ss : SS)
  | ct (ss : SS)
abbrev FE := SS → Res D
abbrev FN := SS → Res O
abbrev FB := SS → Res Bool
abbrev FL := SS → Res (List D)
abbrev FS := SS → Out
/-- an argument: data, or what the slot i holds, lent -/
inductive Ar where
  | d (d : D)
  | ref (i : Nat)
abbrev FA := SS → Res (List Ar)

def tD (K : Fg) (f : FE) : TE := fun σ H Q => ∃ fx ss d ss', FR K fx ss σ H ∧ f ss = .ok d ss' ∧ ∀ v H', Kp H H' → FR K fx ss' σ H' → Rep K H' v d → Q v H'
def tN (K : Fg) (f : FN) : TE := fun σ H Q => ∃ fx ss o ss', FR K fx ss σ H ∧ f ss = .ok o ss' ∧ ∀ p H', Kp H H' → FR K fx ss' σ H' → OwnAt K H' p o → NewAt fx ss' σ p → Q (.ref p) H'
def tT (K : Fg) (f : FB) : TT := fun σ H Q => ∃ fx ss b ss', FR K fx ss σ H ∧ f ss = .ok b ss' ∧ ∀ H', Kp H H' → FR K fx ss' σ H' → Q b H'
def tL (K : Fg) (f : FL) : TA := fun σ H Q => ∃ fx ss ds ss', FR K fx ss σ H ∧ f ss = .ok ds ss' ∧ ∀ vs H', Kp H H' → FR K fx ss' σ H' → RepAll K H' vs ds → Q vs H'
inductive ArgR (K : Fg) (H : Hp) (σ : St) : V → Ar → Prop
  | d {v : V} {d : D} : Rep K H v d → ArgR K H σ v (.d d)
  | ref {v : V} {i : Nat} : σ[i]? = some (some v) → ArgR K H σ v (.ref i)
abbrev ArgsR (K : Fg) (H : Hp) (σ : St) : List V → List Ar → Prop := Paired (ArgR K H σ)
def tA (K : Fg) (f : FA) : TA := fun σ H Q => ∃ fx ss ds ss', FR K fx ss σ H ∧ f ss = .ok ds ss' ∧ ∀ vs H', Kp H H' → FR K fx ss' σ H' → ArgsR K H' σ vs ds → Q vs H'
/-- what is handed back -/
def RetR (K : Fg) (fx : Fx) (ss : SS) (σ : St) (H : Hp) (v : V) : Sl → Prop
  | .imm d => Rep K H v d
  | .own o => ∃ p, v = .ref p ∧ OwnAt K H p o ∧ NewAt fx ss σ p
  | _ => False
def tS (K : Fg) (f : FS) : TS := fun E σ H => ∃ fx ss, FR K fx ss σ H ∧ match f ss with
  | .no => False
  | .nx ss' => ∀ σ' H', Kp H H' → FR K fx ss' σ' H' → E.nx σ' H'
  | .rt r ss' => ∀ v σ' H', Kp H H' → FR K fx ss' σ' H' → RetR K fx ss' σ' H' v r → E.rt v H'
  | .bk ss' => ∀ σ' H', Kp H H' → FR K fx ss' σ' H' → E.bk σ' H'
  | .ct ss' => ∀ σ' H', Kp H H' → FR K fx ss' σ' H' → E.ct σ' H'

section
variable {X : Cx}
theorem _root_.L2.PE.imp {e : Expr} {t t' : TE} (h : PE X e t) (w : ∀ σ H Q, t' σ H Q → t σ H Q) : PE X e t' := ⟨fun pins s σ H Q I q => h.run pins s σ H Q I (w σ H Q q)⟩
theorem _root_.L2.PT.imp {e : Expr} {t t' : TT} (h : PT X e t) (w : ∀ σ H Q, t' σ H Q → t σ H Q) : PT X e t' := ⟨fun pins s σ H Q I q => h.run pins s σ H Q I (w σ H Q q)⟩
theorem _root_.L2.PW.imp {e : Expr} {t t' : TT} (h : PW X e t) (w : ∀ σ H Q, t' σ H Q → t σ H Q) : PW X e t' := ⟨fun whole pins s σ H Q I q => h.run whole pins s σ H Q I (w σ H Q q)⟩
theorem _root_.L2.PA.imp {es : List Expr} {t t' : TA} (h : PA X es t) (w : ∀ σ H Q, t' σ H Q → t σ H Q) : PA X es t' := ⟨fun pos pins s σ H Q I q => h.run pos pins s σ H Q I (w σ H Q q)⟩
theorem _root_.L2.PS.imp {st : Stmt} {t t' : TS} (h : PS X st t) (w : ∀ E σ H, t' E σ H → t E σ H) : PS X st t' := ⟨fun pins s σ H E I q => h.run pins s σ H E I (w E σ H q)⟩
theorem _root_.L2.PSs.imp {st : List Stmt} {t t' : TS} (h : PSs X st t) (w : ∀ E σ H, t' E σ H → t E σ H) : PSs X st t' := ⟨fun pins s σ H E I q => h.run pins s σ H E I (w E σ H q)⟩
/-- a new object is locked: from then on it is data -/
def eFz (f : FN) : FE := fun ss => (f ss).bind fun o s1 => .ok o.toD s1
theorem pe_fz {e : Expr} {f : FN} (h : PE X e (tN X.F f)) : PE X e (tD X.F (eFz f)) := by
  refine ⟨fun pins s σ H Q I q => ?_⟩
  obtain ⟨fx, ss, d, ss', hf, e1, k⟩ := q
  obtain ⟨o, s1, e2, e3⟩ := bind_ok e1
  cases e3
  refine thn (h.run pins s σ H (fun v H' => ∃ p, v = .ref p ∧ Kp H H' ∧ FR X.F fx ss' σ H' ∧ OwnAt X.F H' p o ∧ NewAt fx ss' σ p) I ⟨fx, ss, o, ss', hf, e2, fun p H' a b c d => ⟨p, rfl, a, b, c, d⟩⟩) fun u s2 q => ?_
  obtain ⟨v, H', I2, r, p, rfl, kp, f2, ow, nw⟩ := q
  obtain ⟨w, hw, lw, mw, rp⟩ := ow.loose
  obtain ⟨od, I3⟩ := I2.lock hw mw
  exact ⟨.ref p, _, I3, r, k _ _ (kp.trans (Kp.upd hw lw)) (f2.lock nw hw lw) (rp od)⟩
end
end Dt

/-! Dt1: rules for expressions and tests. -/
namespace Dt
open PySem PySem.Spec L2
open PyProof.Rows hiding St
section
variable {K : Fg} {fx : Fx} {ss : SS} {σ : St} {H H' : Hp}
theorem OwnAt.same {p : Addr} {o : O} (h : Same H H') (w : OwnAt K H p o) : OwnAt K H' p o := by
  obtain ⟨u, e, _⟩ := w.loose
  exact w.kp (Kp.same h) ((h _ _ e).trans e.symm)
theorem FR.same (f : FR K fx ss σ H) (h : Same H H') : FR K fx ss σ H' := by
  refine ⟨f.len, f.kp.trans (Kp.same h), fun a o e hP => h _ _ (f.rest a o e hP), fun a e => f.there a (h.free e), fun i sl e => ?_, f.dis⟩
  have q := f.slot i sl e
  cases sl with
  | un => trivial
  | imm d => obtain ⟨v, a, b⟩ := q; exact ⟨v, a, b.kp (Kp.same h)⟩
  | own x => obtain ⟨r, a, b, c⟩ := q; exact ⟨r, a, b.same h, c⟩
  | bor x => obtain ⟨r, a, b, c⟩ := q; exact ⟨r, a, b.same h, c⟩
theorem same_upd {p : Addr} {o : HO} (h : H p = none) : Same H (upd H p o) := same_new h
theorem same_lock {p : Addr} {o : HO} (s : Same H H') (h : H p = none) : Same H (upd H' p o) := fun a x e => by
  rw [upd_ne (ne_of_none e h)]
  exact s a x e
end

/-! ### operators by data -/
def rD (K : Fg) (g : D → D → Option D) : R2 := fun x y H Q => ∃ d e z, Rep K H x d ∧ Rep K H y e ∧ g d e = some z ∧ ∀ v H', Same H H' → Rep K H' v z → Q v H'
def rDN (K : Fg) (g : D → D → Option O) : R2 := fun x y H Q => ∃ d e z, Rep K H x d ∧ Rep K H y e ∧ g d e = some z ∧ ∀ p H', H p = none → Same H H' → OwnAt K H' p z → Q (.ref p) H'
def uD (K : Fg) (g : D → Option D) : V → Hp → VK → Prop := fun x H Q => ∃ d z, Rep K H x d ∧ g d = some z ∧ ∀ v H', Same H H' → Rep K H' v z → Q v H'
def cD (K : Fg) (g : List D → Option D) : List V → Hp → VK → Prop := fun vs H Q => ∃ ds z, RepAll K H vs ds ∧ g ds = some z ∧ ∀ v H', Same H H' → Rep K H' v z → Q v H'
def cDN (K : Fg) (g : List D → Option O) : List V → Hp → VK → Prop := fun vs H Q => ∃ ds z, RepAll K H vs ds ∧ g ds = some z ∧ ∀ p H', H p = none → Same H H' → OwnAt K H' p z → Q (.ref p) H'
def mD (K : Fg) (g : D → List D → Option D) : V → List V → Hp → VK → Prop := fun x vs H Q => ∃ d ds z, Rep K H x d ∧ RepAll K H vs ds ∧ g d ds = some z ∧ ∀ v H', Same H H' → Rep K H' v z → Q v H'
def mDN (K : Fg) (g : D → List D → Option O) : V → List V → Hp → VK → Prop := fun x vs H Q => ∃ d ds z, Rep K H x d ∧ RepAll K H vs ds ∧ g d ds = some z ∧ ∀ p H', H p = none → Same H H' → OwnAt K H' p z → Q (.ref p) H'
section
variable {X : Cx}
/-- locking at the end of a step -/
theorem ep_fz {pins : List (Addr × Obj)} {σ : St} {H : Hp} {Q : VK} {u : Value} {s' : Shared} {z : O} (h : EP X pins σ (fun v H' => ∃ p, v = .ref p ∧ H p = none ∧ Same H H' ∧ OwnAt X.F H' p z) u s')
    (k : ∀ v H', Same H H' → Rep X.F H' v z.toD → Q v H') : EP X pins σ Q u s' := by
  obtain ⟨v, H', I, r, p, rfl, hp, sm, ow⟩ := h
  obtain ⟨w, hw, lw, mw, rp⟩ := ow.loose
  obtain ⟨od, I3⟩ := I.lock hw mw
  exact ⟨.ref p, _, I3, r, k _ _ (same_lock sm hp) (rp od)⟩
theorem _root_.L2.OpR.imp {f : Value → Value → Sem Value} {r r' : R2} (h : OpR X f r) (w : ∀ x y H Q, r' x y H Q → r x y H Q) : OpR X f r' := fun pins s σ H x y v u Q I rx ry q => h pins s σ H x y v u Q I rx ry (w x y H Q q)
theorem opFz {f : Value → Value → Sem Value} {g : D → D → Option O} (h : OpR X f (rDN X.F g)) : OpR X f (rD X.F fun d e => (g d e).map O.toD) := by
  intro pins s σ H x y v u Q I rx ry q
  obtain ⟨d, e, z, hd, he, hz, k⟩ := q
  obtain ⟨o, hg, rfl⟩ := Option.map_eq_some_iff.mp hz
  exact thn (h pins s σ H x y v u (fun v H' => ∃ p, v = .ref p ∧ H p = none ∧ Same H H' ∧ OwnAt X.F H' p o) I rx ry ⟨d, e, o, hd, he, hg, fun p H' a b c => ⟨p, rfl, a, b, c⟩⟩) fun _ _ q => ep_fz q k
theorem _root_.L2.CallR.imp {f : Value} {r r' : List V → Hp → VK → Prop} (h : CallR X f r) (w : ∀ xs H Q, r' xs H Q → r xs H Q) : CallR X f r' := fun pins s σ H xs us Q I rx q => h pins s σ H xs us Q I rx (w xs H Q q)
theorem callFz {f : Value} {g : List D → Option O} (h : CallR X f (cDN X.F g)) : CallR X f (cD X.F fun ds => (g ds).map O.toD) := by
  intro pins s σ H xs us Q I rx q
  obtain ⟨ds, z, hd, hz, k⟩ := q
  obtain ⟨o, hg, rfl⟩ := Option.map_eq_some_iff.mp hz
  exact thn (h pins s σ H xs us (fun v H' => ∃ p, v = .ref p ∧ H p = none ∧ Same H H' ∧ OwnAt X.F H' p o) I rx ⟨ds, o, hd, hg, fun p H' a b c => ⟨p, rfl, a, b, c⟩⟩) fun _ _ q => ep_fz q k
theorem _root_.L2.MtR.imp {id : String} {r r' : V → List V → Hp → VK → Prop} (h : MtR X id r) (w : ∀ x xs H Q, r' x xs H Q → r x xs H Q) : MtR X id r' := fun pins s σ H x xs v us Q I rx rs q => h pins s σ H x xs v us Q I rx rs (w x xs H Q q)
theorem mtFz {id : String} {g : D → List D → Option O} (h : MtR X id (mDN X.F g)) : MtR X id (mD X.F fun d ds => (g d ds).map O.toD) := by
  intro pins s σ H x xs v us Q I rx rs q
  obtain ⟨d, ds, z, hx, hd, hz, k⟩ := q
  obtain ⟨o, hg, rfl⟩ := Option.map_eq_some_iff.mp hz
  exact thn (h pins s σ H x xs v us (fun v H' => ∃ p, v = .ref p ∧ H p = none ∧ Same H H' ∧ OwnAt X.F H' p o) I rx rs ⟨d, ds, o, hx, hd, hg, fun p H' a b c => ⟨p, rfl, a, b, c⟩⟩) fun _ _ q => ep_fz q k
theorem _root_.L2.IxR.imp {r r' : R2} (h : IxR X r) (w : ∀ x y H Q, r' x y H Q → r x y H Q) : IxR X r' := fun a b pins s σ H x y v u Q I rx ry q e => h a b pins s σ H x y v u Q I rx ry (w x y H Q q) e

/-! ### expressions -/
def eV (i : Nat) : FE := fun ss => match ss[i]? with
  | some (.imm d) => .ok d ss
  | _ => .no
def eC (d : D) : FE := fun ss => .ok d ss
def eOp (g : D → D → Option D) (a b : FE) : FE := fun ss => (a ss).bind fun x s1 => (b s1).bind fun y s2 => .of (g x y) s2
def eUn (g : D → Option D) (a : FE) : FE := fun ss => (a ss).bind fun x s1 => .of (g x) s1
def eCB (g : List D → Option D) (a : FL) : FE := fun ss => (a ss).bind fun x s1 => .of (g x) s1
def eM (g : D → List D → Option D) (a : FE) (b : FL) : FE := fun ss => (a ss).bind fun x s1 => (b s1).bind fun y s2 => .of (g x y) s2
def lNil : FL := fun ss => .ok [] ss
def lCons (a : FE) (b : FL) : FL := fun ss => (a ss).bind fun x s1 => (b s1).bind fun y s2 => .ok (x :: y) s2
theorem xv (i : Nat) {x : Str} {pos : Pos} (hN : X.N[i]? = some x := by rfl) (hv : Vis X.env.scope x := by first | exact Or.inl rfl | exact Or.inr (Or.inl rfl) | exact Or.inr (Or.inr rfl)) (hd : (x == ("__debug__" : Str)) = false := by decide)
    (hcd : (x == ("__classdict__" : Str)) = false := by decide) : PE X (.Name x pos) (tD X.F (eV i)) := by
  refine (pe_var hN hv hd hcd).imp fun σ H Q q => ?_
  obtain ⟨fx, ss, d, ss', f, e, k⟩ := q
  unfold eV at e
  split at e
  · rename_i d' e1
    cases e
    obtain ⟨v, h1, h2⟩ := f.slot i _ e1
    exact ⟨v, h1, k v H (Kp.refl H) f h2⟩
  · cases e
theorem pe_tC {e : Expr} {v : V} {d : D} (h : PE X e (tC v)) (r : ∀ H, Rep X.F H v d) : PE X e (tD X.F (eC d)) := by
  refine h.imp fun σ H Q q => ?_
  obtain ⟨fx, ss, d, ss', f, e, k⟩ := q
  cases e
  exact k v H (Kp.refl H) f (r H)
theorem xi {i j pos} : PE X (.Constant (.int i) j pos) (tD X.F (eC (.int i))) := pe_tC pe_int fun _ => .int _
theorem xb {b j pos} : PE X (.Constant (.bool b) j pos) (tD X.F (eC (.bool b))) := pe_tC pe_bl fun _ => .bl _
theorem xn {j pos} : PE X (.Constant .none j pos) (tD X.F (eC .none)) := pe_tC pe_non fun _ => .non
theorem xs {x j pos} : PE X (.Constant (.str x) j pos) (tD X.F (eC (.str x))) := pe_tC pe_str fun _ => .str _
/-- a constant of the module -/
def GlD (K : Fg) (mg : Str → Option Value) (x : Str) (d : D) : Prop := ∃ v u, mg x = some u ∧ RelV v u ∧ ∀ H, Rep K H v d
theorem xg {x : Str} {d : D} {pos : Pos} (m : GlD X.F X.mg x d) (hg : Gl X x := by rfl) (hd : (x == ("__debug__" : Str)) = false := by decide) : PE X (.Name x pos) (tD X.F (eC d)) := by
  obtain ⟨v, u, hm, r, rp⟩ := m
  exact pe_tC (pe_glob hg hm r hd) rp
variable {a b : Expr} {es : List Expr} {pos : Pos} {fa fb : FE} {fl : FL}
/-- two in a row -/
theorem two {σ : St} {H : Hp} {R : V → V → Hp → Prop} {Q : VK} {g : D → D → SS → Res D} (q : tD X.F (fun ss => (fa ss).bind fun x s1 => (fb s1).bind fun y s2 => g x y s2) σ H Q)
    (h : ∀ v u H2 fx s2 x y d s3, Kp H H2 → FR X.F fx s2 σ H2 → Rep X.F H2 v x → Rep X.F H2 u y → g x y s2 = .ok d s3 → (∀ w H', Kp H H' → FR X.F fx s3 σ H' → Rep X.F H' w d → Q w H') → R v u H2) :
    tD X.F fa σ H fun v H1 => tD X.F fb σ H1 fun u H2 => R v u H2 := by
  obtain ⟨fx, ss, d, s3, f, e, k⟩ := q
  obtain ⟨x, s1, e1, e⟩ := bind_ok e
  obtain ⟨y, s2, e2, e⟩ := bind_ok e
  refine ⟨fx, ss, x, s1, f, e1, fun v H1 k1 f1 r1 => ⟨fx, s1, y, s2, f1, e2, fun u H2 k2 f2 r2 => ?_⟩⟩
  exact h v u H2 fx s2 x y d s3 (k1.trans k2) f2 (r1.kp k2) r2 e k
theorem xop {op : Operator} {g : D → D → Option D} (ho : OpR X (binaryOp op) (rD X.F g)) (ha : PE X a (tD X.F fa)) (hb : PE X b (tD X.F fb)) : PE X (.BinOp a op b pos) (tD X.F (eOp g fa fb)) := by
  refine (pe_op ho ha hb).imp fun σ H Q q => two (R := fun v u H2 => rD X.F g v u H2 Q) q fun v u H2 fx s2 x y d s3 k f r1 r2 e q => ?_
  obtain ⟨eg, rfl⟩ := of_ok e
  exact ⟨x, y, d, r1, r2, eg, fun w H' sm rw => q w H' (k.trans (.same sm)) (f.same sm) rw⟩
theorem xcmp {op : CmpOp} {g : D → D → Option D} (ho : OpR X (compareOp op) (rD X.F g)) (ha : PE X a (tD X.F fa)) (hb : PE X b (tD X.F fb)) (hm : behindInMarks op b = false := by first | exact nomark _ | rfl) : PE X (.Compare a [op] [b] pos) (tD X.F (eOp g fa fb)) := by
  refine (pe_cmpR ho ha hb hm).imp fun σ H Q q => two (R := fun v u H2 => rD X.F g v u H2 Q) q fun v u H2 fx s2 x y d s3 k f r1 r2 e q => ?_
  obtain ⟨eg, rfl⟩ := of_ok e
  exact ⟨x, y, d, r1, r2, eg, fun w H' sm rw => q w H' (k.trans (.same sm)) (f.same sm) rw⟩
theorem xix {g : D → D → Option D} (hr : IxR X (rD X.F g)) (ha : PE X a (tD X.F fa)) (hb : PE X b (tD X.F fb)) (hs : PlainIx b := by exact fun _ _ => rfl) : PE X (.Subscript a b pos) (tD X.F (eOp g fa fb)) := by
  refine (pe_ix hr ha hb hs).imp fun σ H Q q => two (R := fun v u H2 => rD X.F g v u H2 Q) q fun v u H2 fx s2 x y d s3 k f r1 r2 e q => ?_
  obtain ⟨eg, rfl⟩ := of_ok e
  exact ⟨x, y, d, r1, r2, eg, fun w H' sm rw => q w H' (k.trans (.same sm)) (f.same sm) rw⟩
theorem xun {op : UnaryOp} {g : D → Option D} (ho : UnR X (unaryOp op) (uD X.F g)) (ha : PE X a (tD X.F fa)) : PE X (.UnaryOp op a pos) (tD X.F (eUn g fa)) := by
  refine (pe_un ho ha).imp fun σ H Q q => ?_
  obtain ⟨fx, ss, d, s3, f, e, k⟩ := q
  obtain ⟨x, s1, e1, e⟩ := bind_ok e
  obtain ⟨eg, rfl⟩ := of_ok e
  exact ⟨fx, ss, x, _, f, e1, fun v H1 k1 f1 r1 => ⟨x, d, r1, eg, fun w H' sm rw => k w H' (k1.trans (.same sm)) (f1.same sm) rw⟩⟩
/-! argument lists -/
theorem an : PA X [] (tL X.F lNil) := by
  refine pa_nil.imp fun σ H Q q => ?_
  obtain ⟨fx, ss, d, s3, f, e, k⟩ := q
  cases e
  exact k [] H (Kp.refl H) f .nil
theorem ac (ha : PE X a (tD X.F fa)) (hr : PA X es (tL X.F fl)) (hs : starEach (a :: es) X.env = (false, eval a X.env) :: starEach es X.env := by rfl) : PA X (a :: es) (tL X.F (lCons fa fl)) := by
  refine (pa_cons ha hr hs).imp fun σ H Q q => ?_
  obtain ⟨fx, ss, d, s3, f, e, k⟩ := q
  obtain ⟨x, s1, e1, e⟩ := bind_ok e
  obtain ⟨y, s2, e2, e⟩ := bind_ok e
  cases e
  exact ⟨fx, ss, x, s1, f, e1, fun v H1 k1 f1 r1 => ⟨fx, s1, y, _, f1, e2, fun vs H2 k2 f2 r2 => k _ H2 (k1.trans k2) f2 (.cons (r1.kp k2) r2)⟩⟩
/-! displays -/
def eTup (a : FL) : FE := fun ss => (a ss).bind fun x s1 => if x.length ≤ sizeLine then .ok (.tuple x) s1 else .no
def nLst (a : FL) : FN := fun ss => (a ss).bind fun x s1 => if x.length ≤ sizeLine then .ok (.lst x) s1 else .no
theorem xt {n} (h : PA X es (tL X.F fl)) : PE X (.Tuple es n pos) (tD X.F (eTup fl)) := by
  refine (pe_tup h).imp fun σ H Q q => ?_
  obtain ⟨fx, ss, d, s3, f, e, k⟩ := q
  obtain ⟨x, s1, e1, e⟩ := bind_ok e
  split at e
  · rename_i hl
    cases e
    refine ⟨fx, ss, x, _, f, e1, fun vs H1 k1 f1 r1 => ⟨by rw [r1.len]; exact hl, fun p hp => k _ _ (k1.trans (.same (same_new hp))) (f1.new hp) (.tup (.of upd_same) (r1.kp (.same (same_new hp))))⟩⟩
  · cases e
theorem xl {pos : Pos} (h : PA X es (tL X.F fl)) : PE X (.List es pos) (tN X.F (nLst fl)) := by
  refine (pe_lst h).imp fun σ H Q q => ?_
  obtain ⟨fx, ss, d, s3, f, e, k⟩ := q
  obtain ⟨x, s1, e1, e⟩ := bind_ok e
  split at e
  · rename_i hl
    cases e
    refine ⟨fx, ss, x, _, f, e1, fun vs H1 k1 f1 r1 => ⟨by rw [r1.len]; exact hl, fun p hp => k _ _ (k1.trans (.same (same_new hp))) (f1.new hp) ⟨vs, upd_same, r1.kp (.same (same_new hp))⟩ (f1.newAt hp)⟩⟩
  · cases e
/-! calls of built-ins -/
theorem xcb {id : String} {x : Str} {p : Pos} {g : List D → Option D} (hc : CallR X (.builtin id) (cD X.F g)) (hm : X.mg x = none) (hv : bootBuiltins x = some (.builtin id)) (ha : PA X (a :: es) (tL X.F fl)) (hg : Gl X x := by rfl) (hn : x ≠ "__name__" := by decide) (hdb : (x == ("__debug__" : Str)) = false := by decide)
    (he : starEach (a :: es) X.env = (false, eval a X.env) :: starEach es X.env := by rfl) (hpl : (backTo pos (starEach es X.env)).any (·.1) = false := by rfl) : PE X (.Call (.Name x p) (a :: es) [] pos) (tD X.F (eCB g fl)) := by
  refine (pe_callB hc hg hm hv ha hn hdb he hpl).imp fun σ H Q q => ?_
  obtain ⟨fx, ss, d, s3, f, e, k⟩ := q
  obtain ⟨x, s1, e1, e⟩ := bind_ok e
  obtain ⟨eg, rfl⟩ := of_ok e
  exact ⟨fx, ss, x, _, f, e1, fun v H1 k1 f1 r1 => ⟨x, d, r1, eg, fun w H' sm rw => k w H' (k1.trans (.same sm)) (f1.same sm) rw⟩⟩
theorem xct {id : String} {x : Str} {p : Pos} {g : List D → Option D} (hc : CallR X (.type id) (cD X.F g)) (hm : X.mg x = none) (hv : bootBuiltins x = some (.type id)) (ha : PA X (a :: es) (tL X.F fl)) (hg : Gl X x := by rfl) (hn : x ≠ "__name__" := by decide) (hdb : (x == ("__debug__" : Str)) = false := by decide)
    (he : starEach (a :: es) X.env = (false, eval a X.env) :: starEach es X.env := by rfl) (hpl : (backTo pos (starEach es X.env)).any (·.1) = false := by rfl) : PE X (.Call (.Name x p) (a :: es) [] pos) (tD X.F (eCB g fl)) := by
  refine (pe_callTy hc hg hm hv ha hn hdb he hpl).imp fun σ H Q q => ?_
  obtain ⟨fx, ss, d, s3, f, e, k⟩ := q
  obtain ⟨x, s1, e1, e⟩ := bind_ok e
  obtain ⟨eg, rfl⟩ := of_ok e
  exact ⟨fx, ss, x, _, f, e1, fun v H1 k1 f1 r1 => ⟨x, d, r1, eg, fun w H' sm rw => k w H' (k1.trans (.same sm)) (f1.same sm) rw⟩⟩
/-! truth: bools alone -/
def asB : D → Option Bool
  | .bool b => some b
  | _ => none
def bOf (a : FE) : FB := fun ss => (a ss).bind fun x s1 => .of (asB x) s1
theorem asB_some {d : D} {b : Bool} (h : asB d = some b) : d = .bool b := by
  cases d <;> first | (cases h; rfl) | cases h
theorem Rep.bool {K : Fg} {H : Hp} {v : V} {b : Bool} (h : Rep K H v (.bool b)) : v = .bl b := by cases h; rfl
theorem tbx {ta : FE} {σ : St} {H : Hp} {Q : Bool → Hp → Prop} (q : tT X.F (bOf ta) σ H Q) : tB (tD X.F ta) σ H Q := by
  obtain ⟨fx, ss, d, s3, f, e, k⟩ := q
  obtain ⟨x, s1, e1, e⟩ := bind_ok e
  obtain ⟨e, e0⟩ := of_ok e
  have ex := asB_some e
  rw [ex, ← e0] at e1
  exact ⟨fx, ss, _, _, f, e1, fun v H1 k1 f1 r1 => ⟨d, r1.bool, k H1 k1 f1⟩⟩
/-- an expression as a test -/
theorem tv (h : PE X a (tD X.F fa)) (he : ∀ whole, isTrue a X.env whole = (do let v ← whole; standAt a.pos; holding [v] (truthy v)) := by intro _; rfl) : PT X a (tT X.F (bOf fa)) :=
  (pt_val h he).imp fun _ _ _ q => tbx q
def bAnd (a b : FB) : FB := fun ss => (a ss).bind fun x s1 => if x = true then b s1 else .ok false s1
def bOr (a b : FB) : FB := fun ss => (a ss).bind fun x s1 => if x = true then .ok true s1 else b s1
def bNot (a : FB) : FB := fun ss => (a ss).bind fun x s1 => .ok (!x) s1
variable {ba bb : FB} {rest : List Expr}
theorem tand1 (ha : PT X a (tT X.F ba)) : PW X (.BoolOp .And [a] pos) (tT X.F ba) := pw_and1 ha
theorem tor1 (ha : PT X a (tT X.F ba)) : PW X (.BoolOp .Or [a] pos) (tT X.F ba) := pw_or1 ha
theorem tand (ha : PT X a (tT X.F ba)) (hb : PW X (.BoolOp .And (b :: rest) pos) (tT X.F bb)) : PW X (.BoolOp .And (a :: b :: rest) pos) (tT X.F (bAnd ba bb)) := by
  refine (pw_and ha hb).imp fun σ H Q q => ?_
  obtain ⟨fx, ss, d, s3, f, e, k⟩ := q
  obtain ⟨x, s1, e1, e⟩ := bind_ok e
  refine ⟨fx, ss, x, s1, f, e1, fun H1 k1 f1 => ?_⟩
  split at e
  · rename_i hx
    subst hx
    exact iteT ⟨fx, s1, d, s3, f1, e, fun H2 k2 f2 => k H2 (k1.trans k2) f2⟩
  · rename_i hx
    cases e
    rw [if_neg hx]
    exact k H1 k1 f1
theorem tor (ha : PT X a (tT X.F ba)) (hb : PW X (.BoolOp .Or (b :: rest) pos) (tT X.F bb)) : PW X (.BoolOp .Or (a :: b :: rest) pos) (tT X.F (bOr ba bb)) := by
  refine (pw_or ha hb).imp fun σ H Q q => ?_
  obtain ⟨fx, ss, d, s3, f, e, k⟩ := q
  obtain ⟨x, s1, e1, e⟩ := bind_ok e
  refine ⟨fx, ss, x, s1, f, e1, fun H1 k1 f1 => ?_⟩
  split at e
  · rename_i hx
    cases e
    rw [if_pos hx]
    exact k H1 k1 f1
  · rename_i hx
    rw [if_neg hx]
    exact ⟨fx, s1, d, s3, f1, e, fun H2 k2 f2 => k H2 (k1.trans k2) f2⟩
theorem tnot (ha : PT X a (tT X.F ba)) : PT X (.UnaryOp .Not a pos) (tT X.F (bNot ba)) := by
  refine (pt_not ha).imp fun σ H Q q => ?_
  obtain ⟨fx, ss, d, s3, f, e, k⟩ := q
  obtain ⟨x, s1, e1, e⟩ := bind_ok e
  cases e
  exact ⟨fx, ss, x, s3, f, e1, fun H1 k1 f1 => k H1 k1 f1⟩
/-- and, or, not as values, of bools -/
def eAnd (a b : FE) : FE := fun ss => (a ss).bind fun x s1 => match x with
  | .bool true => b s1
  | .bool false => .ok (.bool false) s1
  | _ => .no
def eOr (a b : FE) : FE := fun ss => (a ss).bind fun x s1 => match x with
  | .bool true => .ok (.bool true) s1
  | .bool false => b s1
  | _ => .no
def eNot (a : FE) : FE := fun ss => (a ss).bind fun x s1 => match x with
  | .bool x => .ok (.bool (!x)) s1
  | _ => .no
theorem xone {op} (h : PE X a (tD X.F fa)) : PE X (.BoolOp op [a] pos) (tD X.F fa) := pe_one h
theorem xand (ha : PE X a (tD X.F fa)) (hb : PE X (.BoolOp .And (b :: rest) pos) (tD X.F fb)) : PE X (.BoolOp .And (a :: b :: rest) pos) (tD X.F (eAnd fa fb)) := by
  refine (pe_and ha hb).imp fun σ H Q q => ?_
  obtain ⟨fx, ss, d, s3, f, e, k⟩ := q
  obtain ⟨x, s1, e1, e⟩ := bind_ok e
  refine ⟨fx, ss, x, s1, f, e1, fun v H1 k1 f1 r1 => ?_⟩
  split at e
  · exact ⟨true, r1.bool, iteT ⟨fx, s1, d, s3, f1, e, fun v H2 k2 f2 => k v H2 (k1.trans k2) f2⟩⟩
  · cases e
    exact ⟨false, r1.bool, iteF (k _ H1 k1 f1 (.bl _))⟩
  · cases e
theorem xor (ha : PE X a (tD X.F fa)) (hb : PE X (.BoolOp .Or (b :: rest) pos) (tD X.F fb)) : PE X (.BoolOp .Or (a :: b :: rest) pos) (tD X.F (eOr fa fb)) := by
  refine (pe_or ha hb).imp fun σ H Q q => ?_
  obtain ⟨fx, ss, d, s3, f, e, k⟩ := q
  obtain ⟨x, s1, e1, e⟩ := bind_ok e
  refine ⟨fx, ss, x, s1, f, e1, fun v H1 k1 f1 r1 => ?_⟩
  split at e
  · cases e
    exact ⟨true, r1.bool, iteT (k _ H1 k1 f1 (.bl _))⟩
  · exact ⟨false, r1.bool, iteF ⟨fx, s1, d, s3, f1, e, fun v H2 k2 f2 => k v H2 (k1.trans k2) f2⟩⟩
  · cases e
theorem xnot (ha : PE X a (tD X.F fa)) : PE X (.UnaryOp .Not a pos) (tD X.F (eNot fa)) := by
  refine (pe_not ha).imp fun σ H Q q => ?_
  obtain ⟨fx, ss, d, s3, f, e, k⟩ := q
  obtain ⟨x, s1, e1, e⟩ := bind_ok e
  split at e
  · cases e
    exact ⟨fx, ss, _, _, f, e1, fun v H1 k1 f1 r1 => ⟨_, r1.bool, k _ H1 k1 f1 (.bl _)⟩⟩
  · cases e
def eIf (c : FB) (a b : FE) : FE := fun ss => (c ss).bind fun x s1 => if x = true then a s1 else b s1
theorem xif {c : Expr} (hc : PT X c (tT X.F ba)) (ha : PE X a (tD X.F fa)) (hb : PE X b (tD X.F fb)) : PE X (.IfExp c a b pos) (tD X.F (eIf ba fa fb)) := by
  refine (pe_ifExp hc ha hb).imp fun σ H Q q => ?_
  obtain ⟨fx, ss, d, s3, f, e, k⟩ := q
  obtain ⟨x, s1, e1, e⟩ := bind_ok e
  refine ⟨fx, ss, x, s1, f, e1, fun H1 k1 f1 => ?_⟩
  split at e
  · rename_i hx
    rw [if_pos hx]
    exact ⟨fx, s1, d, s3, f1, e, fun v H2 k2 f2 => k v H2 (k1.trans k2) f2⟩
  · rename_i hx
    rw [if_neg hx]
    exact ⟨fx, s1, d, s3, f1, e, fun v H2 k2 f2 => k v H2 (k1.trans k2) f2⟩
/-- a op b op c -/
def eCh (g h : D → D → Option D) (a b c : FE) : FE := fun ss => (a ss).bind fun x s1 => (b s1).bind fun y s2 => (Res.of (g x y) s2).bind fun z s3 => match z with
  | .bool true => (c s3).bind fun w s4 => .of (h y w) s4
  | .bool false => .ok (.bool false) s3
  | _ => .no
theorem xch {c : Expr} {fc : FE} {op op' : CmpOp} {g g' : D → D → Option D} (ho : OpR X (compareOp op) (rD X.F g)) (ho' : OpR X (compareOp op') (rD X.F g')) (ha : PE X a (tD X.F fa)) (hb : PE X b (tD X.F fb)) (hc : PE X c (tD X.F fc)) (hm : lastMarks [op, op'] [b, c] = false := by with_unfolding_all rfl) :
    PE X (.Compare a [op, op'] [b, c] pos) (tD X.F (eCh g g' fa fb fc)) := by
  refine (pe_chain ho ho' ha hb hc hm).imp fun σ H Q q => ?_
  obtain ⟨fx, ss, d, s5, f, e, k⟩ := q
  obtain ⟨x, s1, e1, e⟩ := bind_ok e
  obtain ⟨y, s2, e2, e⟩ := bind_ok e
  obtain ⟨z, s3, e3, e7⟩ := bind_ok e
  obtain ⟨e4, rfl⟩ := of_ok e3
  clear e
  refine ⟨fx, ss, x, s1, f, e1, fun v H1 k1 f1 r1 => ⟨fx, s1, y, _, f1, e2, fun u H2 k2 f2 r2 => ⟨x, y, z, r1.kp k2, r2, e4, fun w H3 sm rw => ?_⟩⟩⟩
  have f3 := f2.same sm
  have k3 := (k1.trans k2).trans (.same sm)
  split at e7
  · obtain ⟨w2, s4, e5, e⟩ := bind_ok e7
    obtain ⟨eg, rfl⟩ := of_ok e
    exact ⟨true, rw.bool, iteT ⟨fx, _, w2, _, f3, e5, fun t H4 k4 f4 r4 => ⟨y, w2, d, (r2.kp (.same sm)).kp k4, r4, eg, fun t2 H5 sm5 r5 => k t2 H5 ((k3.trans k4).trans (.same sm5)) (f4.same sm5) r5⟩⟩⟩
  · cases e7
    exact ⟨false, rw.bool, iteF (k _ H3 k3 f3 (.bl _))⟩
  · cases e7

/-! comparisons as tests -/
theorem tread {e : Expr} {t : TE} {f : FE} (h : PT X e (tTest t)) (w : ∀ σ H Q, tD X.F f σ H Q → t σ H Q) : PT X e (tT X.F (bOf f)) :=
  h.imp fun σ H Q q => w σ H _ (by
    obtain ⟨fx, ss, d, s3, f, e, k⟩ := q
    obtain ⟨x, s1, e1, e⟩ := bind_ok e
    obtain ⟨e, e0⟩ := of_ok e
    have ex := asB_some e
    rw [ex, ← e0] at e1
    exact ⟨fx, ss, _, _, f, e1, fun v H1 k1 f1 r1 => ⟨d, r1.bool, k H1 k1 f1⟩⟩)
theorem cmp_read {g : D → D → Option D} {σ : St} {H : Hp} {Q : VK} (q : tD X.F (eOp g fa fb) σ H Q) : tOp (rD X.F g) (tD X.F fa) (tD X.F fb) σ H Q :=
  two (R := fun v u H2 => rD X.F g v u H2 Q) q fun v u H2 fx s2 x y d s3 k f r1 r2 e q => by
    obtain ⟨eg, rfl⟩ := of_ok e
    exact ⟨x, y, d, r1, r2, eg, fun w H' sm rw => q w H' (k.trans (.same sm)) (f.same sm) rw⟩
theorem tcmp {op : CmpOp} {g : D → D → Option D} (ho : OpR X (compareOp op) (rD X.F g)) (ha : PE X a (tD X.F fa)) (hb : PE X b (tD X.F fb)) (hm : behindInMarks op b = false := by first | exact nomark _ | rfl) : PT X (.Compare a [op] [b] pos) (tT X.F (bOf (eOp g fa fb))) :=
  tread (pt_cmpR ho ha hb hm) fun _ _ _ q => cmp_read q
theorem ch_read {c : Expr} {fc : FE} {g g' : D → D → Option D} {σ : St} {H : Hp} {Q : VK} (q : tD X.F (eCh g g' fa fb fc) σ H Q) : tChain (rD X.F g) (rD X.F g') (tD X.F fa) (tD X.F fb) (tD X.F fc) σ H Q := by
  obtain ⟨fx, ss, d, s5, f, e, k⟩ := q
  obtain ⟨x, s1, e1, e⟩ := bind_ok e
  obtain ⟨y, s2, e2, e⟩ := bind_ok e
  obtain ⟨z, s3, e3, e7⟩ := bind_ok e
  obtain ⟨e4, rfl⟩ := of_ok e3
  clear e
  refine ⟨fx, ss, x, s1, f, e1, fun v H1 k1 f1 r1 => ⟨fx, s1, y, _, f1, e2, fun u H2 k2 f2 r2 => ⟨x, y, z, r1.kp k2, r2, e4, fun w H3 sm rw => ?_⟩⟩⟩
  have f3 := f2.same sm
  have k3 := (k1.trans k2).trans (.same sm)
  split at e7
  · obtain ⟨w2, s4, e5, e⟩ := bind_ok e7
    obtain ⟨eg, rfl⟩ := of_ok e
    exact ⟨true, rw.bool, iteT ⟨fx, _, w2, _, f3, e5, fun t H4 k4 f4 r4 => ⟨y, w2, d, (r2.kp (.same sm)).kp k4, r4, eg, fun t2 H5 sm5 r5 => k t2 H5 ((k3.trans k4).trans (.same sm5)) (f4.same sm5) r5⟩⟩⟩
  · cases e7
    exact ⟨false, rw.bool, iteF (k _ H3 k3 f3 (.bl _))⟩
  · cases e7
theorem tch {c : Expr} {fc : FE} {op op' : CmpOp} {g g' : D → D → Option D} (ho : OpR X (compareOp op) (rD X.F g)) (ho' : OpR X (compareOp op') (rD X.F g')) (ha : PE X a (tD X.F fa)) (hb : PE X b (tD X.F fb)) (hc : PE X c (tD X.F fc)) (hm : lastMarks [op, op'] [b, c] = false := by with_unfolding_all rfl) :
    PT X (.Compare a [op, op'] [b, c] pos) (tT X.F (bOf (eCh g g' fa fb fc))) :=
  tread (pt_chain ho ho' ha hb hc hm) fun _ _ _ q => ch_read (c := c) q
end
end Dt

/-! Dt2: operators by data. -/
namespace Dt
open PySem PySem.Spec L2
open PyProof.Rows hiding St
open PySem.W (alike alikeAll dataLt)

/-! ### reading off -/
mutual
theorem Rep.dp {K : Fg} {H : Hp} : ∀ {v : V} {d : D}, Rep K H v d → d.plain = true → Dp K H v d
  | _, _, .non, _ => .non
  | _, _, .bl b, _ => .bl b
  | _, _, .int i, _ => .int i
  | _, _, .str x, _ => .str x
  | _, _, .lst h r, n => .lst h.sq (RepAll.dp r (by rw [PyData.plain] at n; exact n))
  | _, _, .tup h r, n => .tup h (RepAll.dp r (by rw [PyData.plain] at n; exact n))
  | _, _, .dK h r, n => by rw [PyData.plain] at n; cases n
  | _, _, .dN h c q r, n => by unfold ndD at n; rw [PyData.plain] at n; cases n
  | _, _, .ins h c r, n => by unfold insD at n; rw [PyData.plain] at n; cases n
  | _, _, .fn h, n => by unfold fnD at n; rw [PyData.plain] at n; cases n
theorem RepAll.dp {K : Fg} {H : Hp} : ∀ {vs : List V} {ds : List D}, RepAll K H vs ds → PyData.plainAll ds = true → DpAll K H vs ds
  | _, _, .nil, _ => .nil
  | _, _, .cons h r, n => by
    rw [PyData.plainAll, Bool.and_eq_true] at n
    exact .cons (Rep.dp h n.1) (RepAll.dp r n.2)
end
section
variable {K : Fg} {H : Hp}
theorem Rep.intv {v : V} {i : Int} (h : Rep K H v (.int i)) : v = .int i := by cases h; rfl
theorem Rep.strv {v : V} {i : Str} (h : Rep K H v (.str i)) : v = .str i := by cases h; rfl
theorem Rep.nonv {v : V} (h : Rep K H v .none) : v = .non := by cases h; rfl
theorem Rep.tupv {v : V} {ds : List D} (h : Rep K H v (.tuple ds)) : ∃ a xs, v = .ref a ∧ SqT K H a xs ∧ RepAll K H xs ds := by
  cases h with
  | tup h r => exact ⟨_, _, rfl, h, r⟩
theorem Rep.lstv {v : V} {ds : List D} (h : Rep K H v (.list ds)) : ∃ a xs, v = .ref a ∧ LstF K H a xs ∧ RepAll K H xs ds := by
  cases h with
  | lst h r => exact ⟨_, _, rfl, h, r⟩
theorem Rep.seqv {v : V} {ds : List D} {d : D} (e : d = .list ds ∨ d = .tuple ds) (h : Rep K H v d) : ∃ a xs, v = .ref a ∧ (SqL K H a xs ∨ SqT K H a xs) ∧ RepAll K H xs ds := by
  rcases e with rfl | rfl
  · obtain ⟨a, xs, e, h, r⟩ := h.lstv; exact ⟨a, xs, e, .inl h.sq, r⟩
  · obtain ⟨a, xs, e, h, r⟩ := h.tupv; exact ⟨a, xs, e, .inr h, r⟩
end

/-! ### + - * // % ** -/
def fits (n : Nat) (d : D) : Option D := if n ≤ sizeLine then some d else none
theorem fits_some {n : Nat} {d e : D} (h : fits n d = some e) : n ≤ sizeLine ∧ d = e := by
  unfold fits at h
  split at h
  · exact ⟨by assumption, Option.some.inj h⟩
  · cases h
def dAdd : D → D → Option D
  | .int i, .int j => some (.int (i + j))
  | .str x, .str y => fits (x.length + y.length) (.str (x ++ y))
  | .tuple xs, .tuple ys => fits (xs.length + ys.length) (.tuple (xs ++ ys))
  | .list xs, .list ys => fits (xs.length + ys.length) (.list (xs ++ ys))
  | .bool b, .int j => some (.int ((if b = true then 1 else 0) + j))
  | .int i, .bool b => some (.int (i + if b = true then 1 else 0))
  | _, _ => none
section
variable {X : Cx}
def rCatF (K : Fg) : R2 := fun x y H Q => ∃ l b xs zs, x = .ref l ∧ y = .ref b ∧ SqL K H l xs ∧ SqL K H b zs ∧ xs.length + zs.length ≤ sizeLine ∧ ∀ p, H p = none → Q (.ref p) (upd H p (.lst (xs ++ zs)))
theorem op_catF : OpR X (binaryOp .Add) (rCatF X.F) := by
  intro pins s σ H x y v u Q I rx ry h
  obtain ⟨l, b, xs, zs, rfl, rfl, hH, hB, hz, q⟩ := h
  cases rx
  cases ry
  obtain ⟨its, r, ⟨⟨cls, dd, data, sl⟩, n, ho, hc, hdn, hd⟩, hl⟩ := I.list hH
  obtain ⟨its2, r2, ⟨⟨cls2, dd2, data2, sl2⟩, n2, ho2, hc2, hdn2, hd2⟩, hl2⟩ := I.list hB
  simp only at hc hd hc2 hd2
  subst hc hd hc2 hd2
  have e1 := r.length
  have e2 := r2.length
  have e : its.toArray ++ its2.toArray = (its ++ its2).toArray := by simp
  refine concat_meets ⟨_, ho, rfl⟩ ⟨_, ho2, rfl⟩ PySem.noFill_list_add PySem.seq_list_add PySem.F.slot_list_add PySem.F.entry_list_add (PySem.F.args_list_add_2 _ _) (list_addW l b its.toArray its2.toArray n n2 dd dd2 sl sl2 (by rw [List.size_toArray, List.size_toArray]; omega)) ⟨ho, ho2, ?_⟩
  rw [e]
  exact ⟨.ref _, _, I.lnew (t' := s.toks) (r.append r2) (by rw [List.length_append]; omega), rfl, q _ I.fresh⟩
theorem opAdd : OpR X (binaryOp .Add) (rD X.F dAdd) := by
  intro pins s σ H x y v u Q I rx ry ⟨d, e, z, hd, he, hz, k⟩
  unfold dAdd at hz
  split at hz
  · cases hz
    obtain rfl := hd.intv
    obtain rfl := he.intv
    exact op_add pins s σ H _ _ _ _ Q I rx ry ⟨_, _, rfl, rfl, k _ _ (Same.refl H) (.int _)⟩
  · obtain ⟨hl, rfl⟩ := fits_some hz
    obtain rfl := hd.strv
    obtain rfl := he.strv
    exact op_add_str pins s σ H _ _ _ _ Q I rx ry ⟨_, _, rfl, rfl, hl, k _ _ (Same.refl H) (.str _)⟩
  · obtain ⟨hl, rfl⟩ := fits_some hz
    obtain ⟨a, xs, rfl, h1, r1⟩ := hd.tupv
    obtain ⟨b, ys, rfl, h2, r2⟩ := he.tupv
    refine op_catA pins s σ H _ _ _ _ Q I rx ry ⟨a, b, xs, ys, rfl, rfl, h1, h2, by rw [r1.len, r2.len]; exact hl, fun e => ?_, fun _ e => ?_, fun _ _ p hp => ?_⟩
    · subst e
      cases r1
      exact k _ _ (Same.refl H) he
    · subst e
      cases r2
      rw [List.append_nil] at k
      exact k _ _ (Same.refl H) hd
    · exact k _ _ (same_new hp) (.tup (.of upd_same) ((r1.append r2).kp (.same (same_new hp))))
  · obtain ⟨hl, rfl⟩ := fits_some hz
    obtain ⟨a, xs, rfl, h1, r1⟩ := hd.lstv
    obtain ⟨b, ys, rfl, h2, r2⟩ := he.lstv
    refine thn (op_catF pins s σ H _ _ _ _ (fun v H' => ∃ p, v = .ref p ∧ H p = none ∧ Same H H' ∧ OwnAt X.F H' p (.lst _)) I rx ry ⟨a, b, xs, ys, rfl, rfl, h1.sq, h2.sq, by rw [r1.len, r2.len]; exact hl, fun p hp => ⟨p, rfl, hp, same_new hp, _, upd_same, (r1.append r2).kp (.same (same_new hp))⟩⟩) fun _ _ q => ep_fz q k
  · cases hz
    obtain rfl := hd.bool
    obtain rfl := he.intv
    cases rx
    obtain ⟨t, rfl⟩ := ry
    exact PySem.IntBool.add_bool_int ⟨.int _, H, I.tok _, ⟨_, rfl⟩, k _ _ (Same.refl H) (.int _)⟩
  · cases hz
    obtain rfl := hd.intv
    obtain rfl := he.bool
    cases ry
    obtain ⟨t, rfl⟩ := rx
    exact add_int_bool ⟨.int _, H, I.tok _, ⟨_, rfl⟩, k _ _ (Same.refl H) (.int _)⟩
  · cases hz
def dI (g : Int → Int → Option D) : D → D → Option D
  | .int i, .int j => g i j
  | _, _ => none
def dSub : D → D → Option D
  | .int i, .int j => some (.int (i - j))
  | .bool b, .int j => some (.int ((if b = true then 1 else 0) - j))
  | .int i, .bool b => some (.int (i - if b = true then 1 else 0))
  | _, _ => none
def dDiv : D → D → Option D := dI fun i j => if 0 < j ∧ j.natAbs.log2 < 9000 then some (.int (i / j)) else none
def dMod : D → D → Option D := dI fun i j => if 0 < j then some (.int (i % j)) else none
def dPow : D → D → Option D := dI fun i j => if 0 ≤ j ∧ j ≤ 1000000 ∧ i.natAbs < 2 ^ 64 then some (.int (i ^ j.toNat)) else none
theorem dI_some {g : Int → Int → Option D} {d e z : D} (h : dI g d e = some z) : ∃ i j, d = .int i ∧ e = .int j ∧ g i j = some z := by
  unfold dI at h
  split at h
  · exact ⟨_, _, rfl, rfl, h⟩
  · cases h
theorem opSub : OpR X (binaryOp .Sub) (rD X.F dSub) := by
  intro pins s σ H x y v u Q I rx ry ⟨d, e, z, hd, he, hz, k⟩
  unfold dSub at hz
  split at hz
  · cases hz
    obtain rfl := hd.intv
    obtain rfl := he.intv
    exact op_sub pins s σ H _ _ _ _ Q I rx ry ⟨_, _, rfl, rfl, k _ _ (Same.refl H) (.int _)⟩
  · cases hz
    obtain rfl := hd.bool
    obtain rfl := he.intv
    cases rx
    obtain ⟨t, rfl⟩ := ry
    exact PySem.IntBool.sub_bool_int ⟨.int _, H, I.tok _, ⟨_, rfl⟩, k _ _ (Same.refl H) (.int _)⟩
  · cases hz
    obtain rfl := hd.intv
    obtain rfl := he.bool
    cases ry
    obtain ⟨t, rfl⟩ := rx
    exact PySem.IntBool.sub_int_bool ⟨.int _, H, I.tok _, ⟨_, rfl⟩, k _ _ (Same.refl H) (.int _)⟩
  · cases hz
theorem opDiv : OpR X (binaryOp .FloorDiv) (rD X.F dDiv) := by
  intro pins s σ H x y v u Q I rx ry ⟨d, e, z, hd, he, hz, k⟩
  obtain ⟨i, j, rfl, rfl, hg⟩ := dI_some hz
  clear hz
  split at hg
  · rename_i hc
    cases hg
    obtain rfl := hd.intv
    obtain rfl := he.intv
    exact op_fdivW pins s σ H _ _ _ _ Q I rx ry ⟨_, _, rfl, rfl, hc, k _ _ (Same.refl H) (.int _)⟩
  · cases hg
theorem opMod : OpR X (binaryOp .Mod) (rD X.F dMod) := by
  intro pins s σ H x y v u Q I rx ry ⟨d, e, z, hd, he, hz, k⟩
  obtain ⟨i, j, rfl, rfl, hg⟩ := dI_some hz
  clear hz
  split at hg
  · rename_i hc
    cases hg
    obtain rfl := hd.intv
    obtain rfl := he.intv
    exact op_mod pins s σ H _ _ _ _ Q I rx ry ⟨_, _, rfl, rfl, hc, k _ _ (Same.refl H) (.int _)⟩
  · cases hg
theorem opPow : OpR X (binaryOp .Pow) (rD X.F dPow) := by
  intro pins s σ H x y v u Q I rx ry ⟨d, e, z, hd, he, hz, k⟩
  obtain ⟨i, j, rfl, rfl, hg⟩ := dI_some hz
  clear hz
  split at hg
  · rename_i hc
    cases hg
    obtain rfl := hd.intv
    obtain rfl := he.intv
    exact op_pow pins s σ H _ _ _ _ Q I rx ry ⟨_, _, rfl, rfl, hc, k _ _ (Same.refl H) (.int _)⟩
  · cases hg
/-- x * n: an int, a text, a list, a tuple -/
def repS (x : Str) (n : Nat) : Str := ⟨(List.replicate n x.cps.toList).flatten.toArray⟩
def dMul : D → D → Option D
  | .int i, .int j => if i.natAbs.log2 + j.natAbs.log2 < 1000000 then some (.int (i * j)) else none
  | .str x, .int n => if -1000000 ≤ n ∧ n ≤ 1000000 then fits (x.length * n.toNat) (.str (repS x n.toNat)) else none
  | .list xs, .int n => if -1000000 ≤ n ∧ n ≤ 1000000 then fits (xs.length * n.toNat) (.list (List.replicate n.toNat xs).flatten) else none
  | .tuple xs, .int n => if xs ≠ [] ∧ 2 ≤ n ∧ n ≤ 1000 ∧ xs.length ≤ 1000 then some (.tuple (List.replicate n.toNat xs).flatten) else none
  | _, _ => none

def rRepF (K : Fg) : R2 := fun x y H Q => ∃ l k xs, x = .ref l ∧ y = .int k ∧ SqL K H l xs ∧ -(2 ^ 63) ≤ k ∧ k < 2 ^ 63 ∧ xs.length * k.toNat ≤ sizeLine ∧
  ∀ p, H p = none → Q (.ref p) (upd H p (.lst (List.replicate k.toNat xs).flatten))
theorem rmulL (a : Int) (t : Tok) (l : Addr) (items : Array Value) (n : Nat) (d : Option Addr) (sl : Array (Option Value)) :
    Meets (Builtin.«int.__rmul__» ⟨[.int a t, .ref l], []⟩) (fun _ R s => s.heap.get? l = some { cls := .type "list", dict := d, data := .seq items n, slots := sl } ∧ R (.ok (.ret Value.notImplemented)) s) :=
  .of_wp fun prog w A R s h => by obtain ⟨hp, g, d, tk, os⟩ := s; obtain ⟨hl, h⟩ := h; wp_walk; exact ⟨_, rfl, h⟩
theorem mulL (l : Addr) (items : Array Value) (n : Nat) (d : Option Addr) (sl : Array (Option Value)) (x : Int) (u : Tok) (hc0 : ¬(!Builtin.List.listFitsIndex x) = true) (hc1 : ¬items.size * x.toNat > (2 ^ 63 - 1) / 8) (hc2 : ¬Builtin.List.listTooLong (items.size * x.toNat) = true) :
    Meets (Builtin.«list.__mul__» ⟨[.ref l, .int x u], []⟩) (fun _ R s => s.heap.get? l = some { cls := .type "list", dict := d, data := .seq items n, slots := sl } ∧ R (.ok (.ret (Value.ref s.heap.objs.size))) { s with heap := s.heap.push { cls := Value.type "list", data := Data.seq (List.foldl (fun x1 x2 => x1 ++ x2) #[] (List.replicate (if items.isEmpty = true then 0 else x.toNat) items)) }, toks := s.toks }) :=
  .of_wp fun prog w A R s h => by
    obtain ⟨hp, g, d, tk, os⟩ := s; obtain ⟨hl, h⟩ := h
    have hsz := AutoListH.joined_fits hc2
    wp_walk; refine wpAny_ite_false (decide_eq_false (Nat.not_lt.mpr hsz)) ?_; wp_walk; exact ⟨_, rfl, h⟩
theorem op_repF : OpR X (binaryOp .Mult) (rRepF X.F) := by
  intro pins s σ H x y v u Q I rx ry h
  obtain ⟨l, k, xs, rfl, rfl, hH, h1, h2, hz, q⟩ := h
  cases rx
  obtain ⟨t, rfl⟩ := ry
  obtain ⟨its, r, ⟨⟨cls, dd, data, sl⟩, n, ho, hc, hdn, hd⟩, hl0⟩ := I.list hH
  simp only at hc hd
  subst hc hd
  have hl := r.length
  have hlen : its.toArray.size * k.toNat ≤ sizeLine := by rw [List.size_toArray, ← hl]; exact hz
  have hcap : ¬ its.toArray.size * k.toNat > (2 ^ 63 - 1) / 8 := by
    have : (sizeLine : Nat) ≤ (2 ^ 63 - 1) / 8 := by decide
    omega
  have hfit : ¬ (!Builtin.List.listFitsIndex k) = true := by
    rw [fitsIndex_both h1 h2]
    exact Bool.false_ne_true
  have hlong : ¬ Builtin.List.listTooLong (its.toArray.size * k.toNat) = true := by
    rw [notLongL hlen]
    exact Bool.false_ne_true
  have hnew : List.foldl (fun x1 x2 => x1 ++ x2) #[] (List.replicate (if its.toArray.isEmpty = true then 0 else k.toNat) its.toArray) = (List.replicate k.toNat its).flatten.toArray := by
    have f0 : ∀ m : Nat, List.foldl (fun x1 x2 => x1 ++ x2) #[] (List.replicate m its.toArray) = (List.replicate m its).flatten.toArray := fun m => by
      have := foldl_rep its m []
      rw [List.nil_append] at this
      exact this
    rw [f0]
    cases its with
    | nil => simp
    | cons a r' => rw [if_neg (by simp)]
  refine wpAny_binaryOp_repeat_ref (T := "list") (U := "int") (by decide) ⟨_, ho, rfl⟩ (fun s' => typeIs_int s' k t) noFill_list_mul F.fills_int_mul F.slot_int_rmul repeat_list F.slot_int_index.lookup
    (call_meets F.slot_int_rmul (typeIs_int s k t) F.entry_int_rmul (F.args_int_rmul_2 _ _) (rmulL k t l its.toArray n dd sl)
      ⟨ho, rfl, ⟨_, ho, rfl⟩, call_meets F.slot_list_mul ⟨_, ho, rfl⟩ F.entry_list_mul (F.args_list_mul_2 _ _) (mulL l its.toArray n dd sl k t hfit hcap hlong) ⟨ho, ?_⟩⟩)
  rw [hnew]
  exact ⟨.ref _, _, I.lnew (t' := s.toks) (r.rep k.toNat) (by rw [PyProof.Rows.lm_len_rep_flat, Nat.mul_comm]; exact hz), rfl, q _ I.fresh⟩
theorem RepAll.rep {K : Fg} {H : Hp} {vs : List V} {ds : List D} (h : RepAll K H vs ds) : ∀ n : Nat, RepAll K H (List.replicate n vs).flatten (List.replicate n ds).flatten
  | 0 => .nil
  | n + 1 => by
    rw [List.replicate_succ, List.replicate_succ, List.flatten_cons, List.flatten_cons]
    exact h.append (RepAll.rep h n)
theorem repS_eq (x : Str) (n : Nat) : (⟨(List.replicate n x.cps).foldl (· ++ ·) #[]⟩ : Str) = repS x n := by
  unfold repS
  congr 1
  have f0 : ∀ (m : Nat) (acc : Array Nat), List.foldl (fun x1 x2 => x1 ++ x2) acc (List.replicate m x.cps) = acc ++ (List.replicate m x.cps.toList).flatten.toArray := by
    intro m
    induction m with
    | zero => intro acc; simp
    | succ m ih =>
      intro acc
      rw [List.replicate_succ, List.foldl_cons, ih, List.replicate_succ, List.flatten_cons]
      apply Array.ext'
      simp
  rw [f0]
  simp
theorem len_rep {α : Type} (xs : List α) : ∀ n : Nat, (List.replicate n xs).flatten.length = xs.length * n
  | 0 => by simp
  | n + 1 => by rw [List.replicate_succ, List.flatten_cons, List.length_append, len_rep xs n, Nat.mul_succ, Nat.add_comm]
theorem repS_len (z : Str) (n : Nat) : (repS z n).length = z.length * n := by
  show (List.replicate n z.cps.toList).flatten.toArray.size = z.cps.size * n
  rw [List.size_toArray, len_rep, Array.length_toList]
theorem repS_one (z : Str) : repS z 1 = z := by
  unfold repS
  simp
theorem repS_nil {z : Str} (h : z.length = 0) (n : Nat) : repS z n = z := by
  have e : z.cps.toList = [] := List.eq_nil_of_length_eq_zero (by rw [Array.length_toList]; exact h)
  have e2 : z = ⟨#[]⟩ := by
    have : z.cps = #[] := by simpa using congrArg List.toArray e
    obtain ⟨c⟩ := z
    rw [show c = #[] from this]
  unfold repS
  rw [e, e2]
  simp
theorem op_repS : OpR X (binaryOp .Mult) (fun x y H Q => ∃ z n, x = .str z ∧ y = .int n ∧ -1000000 ≤ n ∧ n ≤ 1000000 ∧ z.length * n.toNat ≤ sizeLine ∧ Q (.str (repS z n.toNat)) H) := by
  intro pins s σ H x y v u Q I rx ry h
  obtain ⟨z, n, rfl, rfl, h1, h2, h4, q⟩ := h
  obtain ⟨t, rfl⟩ := rx
  obtain ⟨t', rfl⟩ := ry
  have hs := sizeLine_eq
  refine PySem.P.mul_str ?_ (fun hn hb => ?_) (fun hn _ => ?_) ?_
  · simp only [Bool.or_eq_false_iff, decide_eq_false_iff_not]
    omega
  · have hz : z.length ≤ 16777216 := by
      have : z.length * 1 ≤ z.length * n.toNat := Nat.mul_le_mul_left _ (by omega)
      omega
    have : (16777216 : Int) ≤ (2 ^ 63 - 1) / n := by
      rw [Int.le_ediv_iff_mul_le (by omega)]
      omega
    omega
  · exact decide_eq_false (by omega)
  · by_cases c : n < 1
    · rw [if_pos c]
      have e : n.toNat = 0 := by omega
      rw [e] at q
      exact ⟨by decide, .str _, H, I.tok _, ⟨_, rfl⟩, q⟩
    · rw [if_neg c]
      by_cases c1 : (n == 1 || z.length == 0) = true
      · rw [if_pos c1]
        have e : repS z n.toNat = z := by
          rw [Bool.or_eq_true] at c1
          rcases c1 with c1 | c1
          · have : n = 1 := by simpa using c1
            rw [this]; exact repS_one z
          · exact repS_nil (by simpa using c1) _
        rw [e] at q
        exact ⟨.str z, H, I, ⟨t, rfl⟩, q⟩
      · rw [if_neg c1, repS_eq]
        exact ⟨by rw [repS_len]; exact h4, ⟨.str _, H, I.tok _, ⟨_, rfl⟩, q⟩⟩
theorem opMul : OpR X (binaryOp .Mult) (rD X.F dMul) := by
  intro pins s σ H x y v u Q I rx ry ⟨d, e, z, hd, he, hz, k⟩
  unfold dMul at hz
  split at hz
  · split at hz
    · rename_i hc
      cases hz
      obtain rfl := hd.intv
      obtain rfl := he.intv
      exact op_mulW pins s σ H _ _ _ _ Q I rx ry ⟨_, _, rfl, rfl, hc, k _ _ (Same.refl H) (.int _)⟩
    · cases hz
  · split at hz
    · rename_i hc
      obtain ⟨hl, rfl⟩ := fits_some hz
      obtain rfl := hd.strv
      obtain rfl := he.intv
      exact op_repS pins s σ H _ _ _ _ Q I rx ry ⟨_, _, rfl, rfl, hc.1, hc.2, hl, k _ _ (Same.refl H) (.str _)⟩
    · cases hz
  · split at hz
    · rename_i hc
      obtain ⟨hl, rfl⟩ := fits_some hz
      obtain ⟨a, xs, rfl, h1, r1⟩ := hd.lstv
      obtain rfl := he.intv
      exact thn (op_repF pins s σ H _ _ _ _ (fun v H' => ∃ p, v = .ref p ∧ H p = none ∧ Same H H' ∧ OwnAt X.F H' p (.lst _)) I rx ry ⟨a, _, xs, rfl, rfl, h1.sq, by omega, by omega, by rw [r1.len]; exact hl, fun p hp => ⟨p, rfl, hp, same_new hp, _, upd_same, (r1.rep _).kp (.same (same_new hp))⟩⟩) fun _ _ q => ep_fz q k
    · cases hz
  · split at hz
    · rename_i hc
      cases hz
      obtain ⟨a, xs, rfl, h1, r1⟩ := hd.tupv
      obtain rfl := he.intv
      exact op_repT pins s σ H _ _ _ _ Q I rx ry ⟨a, _, xs, rfl, rfl, h1, fun e => hc.1 (by subst e; cases r1; rfl), hc.2.1, hc.2.2.1, by rw [r1.len]; exact hc.2.2.2, fun p hp => k _ _ (same_new hp) (.tup (.of upd_same) ((r1.rep _).kp (.same (same_new hp))))⟩
    · cases hz
  · cases hz
end
end Dt

/-! Dt2b: dicts as data: keys, what they hold, by values. -/
namespace Dt
open PySem PySem.Spec L2
open PyProof.Rows hiding St
mutual
def nkOf : D → Option NestedKey
  | .none => some .none
  | .int i => some (.num i)
  | .str x => some (.text x)
  | .tuple ds => (nkAll ds).map .tup
  | .bool _ | .list _ | .dict _ => none
def nkAll : List D → Option (List NestedKey)
  | [] => some []
  | d :: ds => match nkOf d, nkAll ds with
    | some k, some ks => some (k :: ks)
    | _, _ => none
end
mutual
theorem nkOf_data : ∀ k : NestedKey, nkOf k.data = some k
  | .none => rfl
  | .num i => rfl
  | .text x => rfl
  | .tup ks => by rw [NestedKey.data, nkOf, nkAll_data ks]; rfl
theorem nkAll_data : ∀ ks : List NestedKey, nkAll (NestedKey.datas ks) = some ks
  | [] => rfl
  | k :: ks => by rw [NestedKey.datas, nkAll, nkOf_data k, nkAll_data ks]
end
mutual
theorem data_nkOf : ∀ {d : D} {k : NestedKey}, nkOf d = some k → d = k.data
  | .none, _, h => by cases h; rfl
  | .int i, _, h => by cases h; rfl
  | .str i, _, h => by cases h; rfl
  | .tuple ds, k, h => by
    rw [nkOf] at h
    obtain ⟨ks, h1, rfl⟩ := Option.map_eq_some_iff.mp h
    rw [NestedKey.data, datas_nkAll h1]
  | .bool _, _, h => by cases h
  | .list _, _, h => by cases h
  | .dict _, _, h => by cases h
theorem datas_nkAll : ∀ {ds : List D} {ks : List NestedKey}, nkAll ds = some ks → ds = NestedKey.datas ks
  | [], _, h => by cases h; rfl
  | d :: ds, ks, h => by
    rw [nkAll] at h
    cases e1 : nkOf d with
    | none => rw [e1] at h; cases h
    | some k =>
      cases e2 : nkAll ds with
      | none => rw [e1, e2] at h; cases h
      | some ks' =>
        rw [e1, e2] at h
        cases h
        rw [NestedKey.datas, data_nkOf e1, datas_nkAll e2]
end
def kEq (a b : D) : Bool := decide (nkOf a = nkOf b)
/-- what a dict holds at a key; with k set; without k -/
def look (kvs : List (D × D)) (k : D) : Option D := (kvs.find? fun p => kEq p.1 k).map (·.2)
def dput (kvs : List (D × D)) (k v : D) : List (D × D) := if (kvs.any fun p => kEq p.1 k) = true then kvs.map (fun p => if kEq p.1 k = true then (p.1, v) else p) else kvs ++ [(k, v)]
def ddrop (kvs : List (D × D)) (k : D) : List (D × D) := kvs.filter fun p => !kEq p.1 k
/-- the dicts among the data: with tuple keys or not -/
def kvsOf : D → Option (Bool × List (D × D))
  | .dict ((.list [], .none) :: kvs) => some (true, kvs)
  | .dict ((.none, _) :: _) => none
  | .dict kvs => some (false, kvs)
  | _ => none
def mkD (n : Bool) (kvs : List (D × D)) : D := if n = true then ndD kvs else .dict kvs
def mkO (n : Bool) (kvs : List (D × D)) : O := if n = true then .dnt kvs else .dct kvs
/-- keys that a dict of its kind takes -/
def kGood (n : Bool) (k : D) : Bool := if n = true then (match nkOf k with | some k => kOk k | none => false) else (match k with | .int _ => true | .str _ => true | _ => false)
theorem nk_keyD (k : Key) : nkOf (keyD k) = some (match k with | .inl i => .num i | .inr x => .text x) := by cases k <;> rfl
theorem kEq_keyD (j k : Key) : kEq (keyD j) (keyD k) = decide (j = k) := by
  unfold kEq
  rw [nk_keyD, nk_keyD, decide_eq_decide]
  cases j <;> cases k <;> simp
theorem kEq_data (j k : NestedKey) : kEq j.data k.data = decide (j = k) := by
  unfold kEq
  rw [nkOf_data, nkOf_data, decide_eq_decide]
  simp
/-- a dict that may be read -/
inductive DAt (K : Fg) (H : Hp) (a : Addr) : Bool → List (D × D) → Prop
  | k {kvs : List (Key × V)} {ds : List D} : Rd H a (.dK kvs) → RepAll K H (kvs.map (·.2)) ds → DAt K H a false ((kvs.map fun p => keyD p.1).zip ds)
  | n {kks : List NestedKey} {kvs : List (V × V)} {ds : List D} : Rd H a (NdO K.w a kks kvs) → kks.all kOk = true → RepAll K H (kvs.map (·.1)) (kks.map NestedKey.data) → RepAll K H (kvs.map (·.2)) ds → DAt K H a true ((kks.map NestedKey.data).zip ds)
theorem head_key {K : Fg} {H : Hp} {kvs : List (Key × V)} {ds : List D} {x : D × D} {r : List (D × D)} (e : (kvs.map fun p => keyD p.1).zip ds = x :: r) : ∃ k, x.1 = keyD k := by
  cases kvs with
  | nil => cases e
  | cons p t => cases ds with
    | nil => cases e
    | cons d ds => cases e; exact ⟨_, rfl⟩
theorem kvsOf_dK {kvs : List (Key × V)} {ds : List D} : kvsOf (.dict ((kvs.map fun p => keyD p.1).zip ds)) = some (false, (kvs.map fun p => keyD p.1).zip ds) := by
  cases kvs with
  | nil => rfl
  | cons p t => cases ds with
    | nil => rfl
    | cons d ds =>
      obtain ⟨k, v⟩ := p
      cases k <;> rfl
theorem Rep.dat {K : Fg} {H : Hp} {v : V} {d : D} {n : Bool} {kvs : List (D × D)} (h : Rep K H v d) (e : kvsOf d = some (n, kvs)) : ∃ a, v = .ref a ∧ DAt K H a n kvs := by
  cases h with
  | dK h r => rw [kvsOf_dK] at e; cases e; exact ⟨_, rfl, .k (.inr ⟨_, h⟩) r⟩
  | dN h c q r => cases e; exact ⟨_, rfl, .n (.inr ⟨_, h⟩) c q r⟩
  | ins h c r => cases e
  | fn h => cases e
  | _ => cases e
theorem OwnAt.dat {K : Fg} {H : Hp} {p : Addr} {n : Bool} {kvs : List (D × D)} (h : OwnAt K H p (mkO n kvs)) : DAt K H p n kvs := by
  cases n with
  | false => obtain ⟨k, es, h1, h2, rfl⟩ := h; exact .k (.inl h1) h2
  | true => obtain ⟨kk, k, es, h1, h0, h2, h3, rfl⟩ := h; exact .n (.inl h1) h0 h2 h3
theorem rd_kp {H H' : Hp} {a : Addr} {u : HO} (k : Same H H') (h : Rd H a u) : Rd H' a u := by
  rcases h with h | ⟨o, h⟩
  · exact .inl (k _ _ h)
  · exact .inr ⟨o, k _ _ h⟩
theorem DAt.same {K : Fg} {H H' : Hp} {a : Addr} {n : Bool} {kvs : List (D × D)} (k : Same H H') (h : DAt K H a n kvs) : DAt K H' a n kvs := by
  cases h with
  | k h r => exact .k (rd_kp k h) (r.kp (.same k))
  | n h c q r => exact .n (rd_kp k h) c (q.kp (.same k)) (r.kp (.same k))
section
variable {K : Fg} {H : Hp}
theorem look_k {k : Key} : ∀ {kvs : List (Key × V)} {ds : List D}, RepAll K H (kvs.map (·.2)) ds → match look ((kvs.map fun p => keyD p.1).zip ds) (keyD k) with
    | some d => ∃ v, valV kvs k = some v ∧ Rep K H v d
    | none => valV kvs k = none
  | [], ds, h => by cases h; exact valV_nil
  | p :: r, ds, h => by
    cases h with
    | @cons _ _ d ds h t =>
      have ih := look_k (k := k) t
      unfold look at *
      rw [List.map_cons, List.zip_cons_cons, List.find?_cons]
      simp only [kEq_keyD]
      by_cases e : p.1 = k
      · rw [decide_eq_true e]
        exact ⟨p.2, valV_pos e, h⟩
      · rw [decide_eq_false e, valV_neg e]
        exact ih
theorem look_isSome {k : Key} {kvs : List (Key × V)} {ds : List D} (h : RepAll K H (kvs.map (·.2)) ds) : (look ((kvs.map fun p => keyD p.1).zip ds) (keyD k)).isSome = (valV kvs k).isSome := by
  have := look_k (k := k) h
  cases e : look ((kvs.map fun p => keyD p.1).zip ds) (keyD k) with
  | none => rw [e] at this; rw [show valV kvs k = none from this]; rfl
  | some d => rw [e] at this; obtain ⟨v, h1, _⟩ := this; rw [h1]; rfl
/-- by values: the entries of a dict with tuple keys -/
theorem look_n {k : NestedKey} : ∀ {kks : List NestedKey} {kvs : List (V × V)} {ds : List D} {xs : List (NestedKey × Addr × Value)}, xs.map (·.1) = kks → Paired (fun (p : V × V) (q : NestedKey × Addr × Value) => p.1 = .ref q.2.1 ∧ RelV p.2 q.2.2) kvs xs → RepAll K H (kvs.map (·.2)) ds →
    match look ((kks.map NestedKey.data).zip ds) k.data with
    | some d => ∃ u v, valueAt (pairsH xs) k = some u ∧ RelV v u ∧ Rep K H v d
    | none => valueAt (pairsH xs) k = none
  | kks, [], ds, xs, e, p, h => by cases p; cases h; cases e; rfl
  | kks, q :: kvs, ds, xs, e, p, h => by
    cases h with
    | @cons _ _ d ds h t =>
      cases p with
      | @cons _ x _ xs p1 p2 =>
        rw [← e]
        have ih := look_n (k := k) rfl p2 t
        unfold look at *
        rw [List.map_cons, List.map_cons, List.zip_cons_cons, List.find?_cons]
        simp only [kEq_data]
        by_cases e : x.1 = k
        · rw [decide_eq_true e]
          refine ⟨x.2.2, q.2, ?_, p1.2, h⟩
          simp [valueAt, pairsH, e]
        · rw [decide_eq_false e]
          have e2 : valueAt (pairsH (x :: xs)) k = valueAt (pairsH xs) k := by simp [valueAt, pairsH, e]
          rw [e2]
          exact ih
theorem look_n_isSome {k : NestedKey} {kks : List NestedKey} {kvs : List (V × V)} {ds : List D} {xs : List (NestedKey × Addr × Value)} (e : xs.map (·.1) = kks) (p : Paired (fun (p : V × V) (q : NestedKey × Addr × Value) => p.1 = .ref q.2.1 ∧ RelV p.2 q.2.2) kvs xs) (h : RepAll K H (kvs.map (·.2)) ds) :
    (look ((kks.map NestedKey.data).zip ds) k.data).isSome = (valueAt (pairsH xs) k).isSome := by
  have := look_n (k := k) e p h
  cases e : look ((kks.map NestedKey.data).zip ds) k.data with
  | none => rw [e] at this; rw [show valueAt (pairsH xs) k = none from this]; rfl
  | some d => rw [e] at this; obtain ⟨u, v, h1, _⟩ := this; rw [h1]; rfl
end
section
variable {X : Cx}
theorem _root_.Dt.Rep.reads {pins : List (Addr × Obj)} {σ : St} {H : Hp} {s : Shared} {v : V} {u : Value} {d : D} (h : Rep X.F H v d) (I : Inv X pins σ H s) (n : d.plain = true) (r : RelV v u) : ∃ as, Reads s.heap u d as := Dp.reads I d v u (h.dp n) r
end
/-! what a key is, in the heap -/
mutual
theorem nested_of {h : Heap} : ∀ {k : NestedKey} {u : Value} {as : List Addr}, Reads h u k.data as → NestedIs h k u
  | .none, u, as, r => by rw [NestedKey.data] at r; cases r; exact .none
  | .num i, u, as, r => by rw [NestedKey.data] at r; cases r; exact .int _ _
  | .text x, u, as, r => by rw [NestedKey.data] at r; cases r; exact .text _ _
  | .tup ks, u, as, r => by
    rw [NestedKey.data] at r
    cases r with
    | tuple h1 h2 h3 h4 => exact .tup h1 h2 h3 (nested_all h4)
theorem nested_all {h : Heap} : ∀ {ks : List NestedKey} {us : List Value} {as : List Addr}, ReadsAll h us (NestedKey.datas ks) as → NestedAll h ks us
  | [], us, as, r => by rw [NestedKey.datas] at r; cases r; exact .nil
  | k :: ks, us, as, r => by
    rw [NestedKey.datas] at r
    cases r with
    | cons h1 h2 => exact .cons (nested_of h1) (nested_all h2)
end
mutual
theorem data_plain : ∀ k : NestedKey, k.data.plain = true
  | .none => rfl
  | .num _ => rfl
  | .text _ => rfl
  | .tup ks => by rw [NestedKey.data, PyData.plain]; exact datas_plain ks
theorem datas_plain : ∀ ks : List NestedKey, PyData.plainAll (NestedKey.datas ks) = true
  | [] => rfl
  | k :: ks => by rw [NestedKey.datas, PyData.plainAll, data_plain k, datas_plain ks]; rfl
end
end Dt

/-! Dt2c: dicts by values: read, asked, written. -/
namespace Dt
open PySem PySem.Spec L2
open PyProof.Rows hiding St
section
variable {X : Cx} {pins : List (Addr × Obj)} {σ : St} {H : Hp} {s : Shared} {a : Addr} {y v : V} {u r : Value} {d e k : D} {n : Bool} {kvs : List (D × D)} {A : Around} {E : Value → Shared → Prop}
abbrev NPair (p : V × V) (q : NestedKey × Addr × Value) : Prop := p.1 = .ref q.2.1 ∧ RelV p.2 q.2.2
theorem kOk_of {k : NestedKey} (h : kOk k = true) : k.depth ≤ 8 ∧ ∃ ks, k = .tup ks := by
  unfold kOk at h
  rw [Bool.and_eq_true, decide_eq_true_eq] at h
  obtain ⟨h1, h2⟩ := h
  cases k with
  | tup ks => exact ⟨h1, ks, rfl⟩
  | _ => cases h2
theorem rep_key (I : Inv X pins σ H s) {b : Addr} {kk : NestedKey} (h : Rep X.F H (.ref b) kk.data) (c : kOk kk = true) : (nestedKind X.prog X.w).is s.heap kk b := by
  obtain ⟨as, rd⟩ := Rep.reads (X := X) h I (data_plain kk) (show RelV (V.ref b) (Value.ref b) from rfl)
  exact ⟨nested_of rd, (kOk_of c).1⟩
theorem npair_keys (I : Inv X pins σ H s) : ∀ {kvs : List (V × V)} {xs : List (NestedKey × Addr × Value)}, Paired NPair kvs xs → (xs.map (·.1)).all kOk = true → RepAll X.F H (kvs.map (·.1)) ((xs.map (·.1)).map NestedKey.data) → ∀ x ∈ xs, (nestedKind X.prog X.w).is s.heap x.1 x.2.1
  | [], [], _, _, _, x, hx => nomatch hx
  | p :: kvs, x :: xs, .cons h t, c, r, z, hz => by
    rw [List.map_cons, List.all_cons, Bool.and_eq_true] at c
    cases r with
    | cons r1 r2 =>
      rcases List.mem_cons.mp hz with rfl | hz
      · have : p.1 = V.ref z.2.1 := h.1
        have r1' : Rep X.F H (p.1) z.1.data := r1
        rw [this] at r1'
        exact rep_key I r1' c.1
      · exact npair_keys I t c.2 r2 z hz
theorem nd_at {kks : List NestedKey} {kvs : List (V × V)} (I : Inv X pins σ H s) (h : Rd H a (NdO X.w a kks kvs)) (c : kks.all kOk = true) (q : RepAll X.F H (kvs.map (·.1)) (kks.map NestedKey.data)) :
    kvs.length ≤ sizeLine ∧ (a == sysModules) = false ∧ ∃ xs : List (NestedKey × Addr × Value), xs.map (·.1) = kks ∧ Paired NPair kvs xs ∧ s.heap.DictOfH (nestedKind X.prog X.w) a xs := by
  have ok : ObjOk X.prog X.w H s.heap a (NdO X.w a kks kvs) := h.ok I.hok
  obtain ⟨⟨z, hd, nd, xs, e1, p, o, es, ep, h1, h2, h3, h4⟩, _⟩ := ok
  subst e1
  exact ⟨z, hd, xs, rfl, p, o, es, ep, h1, h2, h3, h4, npair_keys I p c q, nd⟩
/-- a key of its kind -/
theorem good_k (h : kGood false k = true) (r : Rep X.F H y k) : ∃ key : Key, k = keyD key ∧ y = kV key := by
  cases k with
  | int i => exact ⟨.inl i, rfl, r.intv⟩
  | str x => exact ⟨.inr x, rfl, r.strv⟩
  | _ => simp [kGood] at h
theorem good_n (h : kGood true k = true) (r : Rep X.F H y k) : ∃ (kk : NestedKey) (b : Addr), k = kk.data ∧ y = .ref b ∧ kOk kk = true := by
  unfold kGood at h
  rw [if_pos rfl] at h
  split at h
  · rename_i kk hk
    have e := data_nkOf hk
    obtain ⟨_, ks, rfl⟩ := kOk_of h
    subst e
    rw [NestedKey.data] at r
    obtain ⟨b, xs, e, _⟩ := r.tupv
    exact ⟨.tup ks, b, rfl, e, h⟩
  · cases h
theorem nroom (hu : A.units + 64 < cLine) : (nestedKind X.prog X.w).room A.in1 := by
  show A.units + 1 + 8 < cLine
  omega
theorem da_getItem {Q : Value → Shared → Prop} (hu : A.units + 64 < cLine) (I : Inv X pins σ H s) (g : DAt X.F H a n kvs) (hk : Rep X.F H y k) (kg : kGood n k = true) (ry : RelV y u) (l : look kvs k = some d)
    (h : ∀ v w s', Inv X pins σ H s' → RelV v w → Rep X.F H v d → Q w s') : wpAny (model X.prog X.w) A (getItem (.ref a) u) Q E s := by
  cases g with
  | k hr r =>
    obtain ⟨key, rfl, rfl⟩ := good_k kg hk
    have q := look_k (k := key) r
    rw [l] at q
    obtain ⟨v, q1, q2⟩ := q
    exact d_getItem (by omega) I (.inl ⟨_, key, hr, rfl, q1.symm⟩) ry fun w' s' I' r' => h v w' s' I' r' q2
  | n hr c q r =>
    obtain ⟨kk, b, rfl, rfl, hc⟩ := good_n kg hk
    cases (show u = Value.ref b from ry)
    obtain ⟨_, hd, xs, e1, p, dd⟩ := nd_at I hr c q
    have q2 := look_n (k := kk) e1 p r
    rw [l] at q2
    obtain ⟨u2, v, q3, q4, q5⟩ := q2
    exact getItem_keyed (nroom hu) (rep_key I hk hc) ⟨xs, dd, rfl⟩ q3 (h v _ _ (I.tok _) q4 q5)
theorem da_in {Q : Value → Shared → Prop} (hu : A.units + 64 < cLine) (I : Inv X pins σ H s) (g : DAt X.F H a n kvs) (hk : Rep X.F H y k) (kg : kGood n k = true) (ry : RelV y u)
    (h : ∀ s', Inv X pins σ H s' → Q (.bool (look kvs k).isSome) s') : wpAny (model X.prog X.w) A (compareOp .In u (.ref a)) Q E s := by
  cases g with
  | k hr r =>
    obtain ⟨key, rfl, rfl⟩ := good_k kg hk
    rw [look_isSome r] at h
    exact d_in (by omega) I (.inl ⟨_, key, hr, rfl, rfl⟩) ry h
  | n hr c q r =>
    obtain ⟨kk, b, rfl, rfl, hc⟩ := good_n kg hk
    cases (show u = Value.ref b from ry)
    obtain ⟨_, hd, xs, e1, p, dd⟩ := nd_at I hr c q
    rw [look_n_isSome e1 p r] at h
    exact in_keyed (nroom hu) (rep_key I hk hc) hd ⟨xs, dd, rfl⟩ (h _ (I.tok _))
theorem da_notIn {Q : Value → Shared → Prop} (hu : A.units + 64 < cLine) (I : Inv X pins σ H s) (g : DAt X.F H a n kvs) (hk : Rep X.F H y k) (kg : kGood n k = true) (ry : RelV y u)
    (h : ∀ s', Inv X pins σ H s' → Q (.bool (!(look kvs k).isSome)) s') : wpAny (model X.prog X.w) A (compareOp .NotIn u (.ref a)) Q E s := by
  cases g with
  | k hr r =>
    obtain ⟨key, rfl, rfl⟩ := good_k kg hk
    rw [look_isSome r] at h
    exact d_notIn (by omega) I (.inl ⟨_, key, hr, rfl, rfl⟩) ry h
  | n hr c q r =>
    obtain ⟨kk, b, rfl, rfl, hc⟩ := good_n kg hk
    cases (show u = Value.ref b from ry)
    obtain ⟨_, hd, xs, e1, p, dd⟩ := nd_at I hr c q
    rw [look_n_isSome e1 p r] at h
    exact notIn_keyed (nroom hu) (rep_key I hk hc) hd ⟨xs, dd, rfl⟩ (h _ (I.tok _))
theorem relO_rep {kvs : List (Key × V)} {vs : List (Key × Value)} (rel : KV kvs vs) (k : Key) : RelO (valV kvs k) (valueAt vs k) := rel.val k
/-- d.get(k, x): what it gives -/
theorem da_get2 {Q : Value → Shared → Prop} (hu : A.units + 64 < cLine) (I : Inv X pins σ H s) (g : DAt X.F H a n kvs) (hk : Rep X.F H y k) (kg : kGood n k = true) (ry : RelV y u) (rx : RelV v r) (he : Rep X.F H v e)
    (h : ∀ v w s', Inv X pins σ H s' → RelV v w → Rep X.F H v ((look kvs k).getD e) → Q w s') : wpAny (model X.prog X.w) A (call (.builtin "dict.get") [.ref a, u, r]) Q E s := by
  cases g with
  | k hr rr =>
    obtain ⟨key, rfl, rfl⟩ := good_k kg hk
    have q := look_k (k := key) rr
    refine d_get2 (by omega) I (.inl ⟨_, key, hr, rfl, rfl⟩) ry rx fun w' s' I' r' => ?_
    cases el : look ((_ : List (Key × V)).map (fun p => keyD p.1) |>.zip _) (keyD key) with
    | none =>
      rw [el] at q
      rw [show valV _ key = none from q] at r'
      refine h v _ _ I' r' ?_
      rw [el]
      exact he
    | some d =>
      rw [el] at q
      obtain ⟨v', q3, q4⟩ := q
      rw [q3] at r'
      refine h v' _ _ I' r' ?_
      rw [el]
      exact q4
  | n hr c q rr =>
    obtain ⟨kk, b, rfl, rfl, hc⟩ := good_n kg hk
    cases (show u = Value.ref b from ry)
    obtain ⟨_, hd, xs, e1, p, dd⟩ := nd_at I hr c q
    have q2 := look_n (k := kk) e1 p rr
    refine getOr_keyed (nroom hu) (rep_key I hk hc) hd ⟨xs, dd, rfl⟩ ?_
    cases el : look ((_ : List NestedKey).map NestedKey.data |>.zip _) kk.data with
    | none =>
      rw [el] at q2
      rw [show valueAt (pairsH xs) kk = none from q2]
      refine h v _ _ (I.tok _) rx ?_
      rw [el]
      exact he
    | some d =>
      rw [el] at q2
      obtain ⟨u2, v', q3, q4, q5⟩ := q2
      rw [q3]
      refine h v' _ _ (I.tok _) q4 ?_
      rw [el]
      exact q5
end
end Dt

/-! Dt2d: d[k] = v. -/
namespace Dt
open PySem PySem.Spec L2
open PyProof.Rows hiding St
section
variable {K : Fg} {H : Hp}
theorem kany {kvs : List (Key × V)} {k : Key} : ∀ {ds : List D}, ds.length = kvs.length → (((kvs.map fun p => keyD p.1).zip ds).any fun p => kEq p.1 (keyD k)) = kvs.any fun kv => decide (kv.1 = k) := by
  induction kvs with
  | nil => intro ds _; rfl
  | cons p r ih =>
    intro ds h
    cases ds with
    | nil => cases h
    | cons d ds =>
      rw [List.map_cons, List.zip_cons_cons, List.any_cons, List.any_cons, ih (Nat.succ.inj h), kEq_keyD]
theorem put_k {k : Key} {v : V} {e : D} (hv : Rep K H v e) {kvs : List (Key × V)} {ds : List D} (h : RepAll K H (kvs.map (·.2)) ds) :
    ∃ ds', RepAll K H ((putK kvs k v).map (·.2)) ds' ∧ dput ((kvs.map fun p => keyD p.1).zip ds) (keyD k) e = ((putK kvs k v).map fun p => keyD p.1).zip ds' := by
  have hl : ds.length = kvs.length := by rw [← h.len, List.length_map]
  unfold dput putK
  rw [kany hl]
  by_cases c : (kvs.any fun kv => decide (kv.1 = k)) = true
  · rw [if_pos c, if_pos c]
    clear c hl
    induction kvs generalizing ds with
    | nil => cases h; exact ⟨[], .nil, rfl⟩
    | cons p r ih =>
      cases h with
      | @cons _ _ d ds h t =>
        obtain ⟨ds', h1, h2⟩ := ih t
        simp only [List.map_cons, List.zip_cons_cons, kEq_keyD, h2]
        by_cases e : p.1 = k
        · rw [if_pos e, decide_eq_true e, if_pos rfl]
          exact ⟨_ :: ds', .cons hv h1, rfl⟩
        · rw [if_neg e, decide_eq_false e, if_neg (by decide)]
          exact ⟨d :: ds', .cons h h1, rfl⟩
  · rw [if_neg c, if_neg c]
    refine ⟨ds ++ [e], ?_, ?_⟩
    · rw [List.map_append]
      exact h.append (.cons hv .nil)
    · rw [List.map_append, List.zip_append (by rw [List.length_map, hl])]
      rfl
/-! tuple keys -/
def nrepl (k : NestedKey) (v : V) : List NestedKey → List (V × V) → List (V × V)
  | j :: js, p :: ps => (if j = k then (p.1, v) else p) :: nrepl k v js ps
  | _, _ => []
theorem nrepl_fst {k : NestedKey} {v : V} : ∀ {kks : List NestedKey} {kvs : List (V × V)}, kvs.length = kks.length → (nrepl k v kks kvs).map (·.1) = kvs.map (·.1)
  | [], [], _ => rfl
  | j :: js, p :: ps, h => by
    rw [nrepl, List.map_cons, List.map_cons, nrepl_fst (Nat.succ.inj h)]
    split <;> rfl
  | [], p :: ps, h => by cases h
  | j :: js, [], h => by cases h
theorem nrepl_pair {k : NestedKey} {v : V} {u : Value} (r : RelV v u) : ∀ {kks : List NestedKey} {kvs : List (V × V)} {xs : List (NestedKey × Addr × Value)}, xs.map (·.1) = kks → Paired NPair kvs xs → Paired NPair (nrepl k v kks kvs) (xs.map (putAt k u))
  | _, [], [], e, _ => by cases e; exact .nil
  | _, p :: kvs, x :: xs, e, .cons h t => by
    cases e
    have ih := nrepl_pair (k := k) r (kks := xs.map (·.1)) rfl t
    rw [List.map_cons, List.map_cons, nrepl]
    refine .cons ?_ ih
    unfold putAt
    by_cases c : x.1 = k
    · rw [if_pos c, if_pos c]; exact ⟨h.1, r⟩
    · rw [if_neg c, if_neg c]; exact h
theorem nany {k : NestedKey} : ∀ {kks : List NestedKey} {ds : List D}, ds.length = kks.length → (((kks.map NestedKey.data).zip ds).any fun p => kEq p.1 k.data) = decide (k ∈ kks)
  | [], ds, _ => by simp
  | j :: js, [], h => by cases h
  | j :: js, d :: ds, h => by
    rw [List.map_cons, List.zip_cons_cons, List.any_cons, nany (Nat.succ.inj h), kEq_data, Bool.eq_iff_iff]
    simp only [Bool.or_eq_true, decide_eq_true_eq, List.mem_cons]
    exact or_congr_left eq_comm
theorem put_n {k : NestedKey} {v : V} {e : D} (hv : Rep K H v e) : ∀ {kks : List NestedKey} {kvs : List (V × V)} {ds : List D}, kvs.length = kks.length → RepAll K H (kvs.map (·.2)) ds →
    ∃ ds', RepAll K H ((nrepl k v kks kvs).map (·.2)) ds' ∧ (((kks.map NestedKey.data).zip ds).map fun p => if kEq p.1 k.data = true then (p.1, e) else p) = (kks.map NestedKey.data).zip ds'
  | [], [], ds, _, h => by cases h; exact ⟨[], .nil, rfl⟩
  | j :: js, p :: ps, ds, hl, h => by
    cases h with
    | @cons _ _ d ds h t =>
      obtain ⟨ds', h1, h2⟩ := put_n (k := k) hv (Nat.succ.inj hl) t
      rw [nrepl, List.map_cons, List.map_cons, List.zip_cons_cons, List.map_cons, kEq_data, h2]
      by_cases e : j = k
      · rw [if_pos e, decide_eq_true e, if_pos rfl]
        exact ⟨_ :: ds', .cons hv h1, rfl⟩
      · rw [if_neg e, decide_eq_false e, if_neg (by decide)]
        exact ⟨d :: ds', .cons h h1, rfl⟩
  | [], p :: ps, ds, h, _ => by cases h
  | j :: js, [], ds, h, _ => by cases h
end
section
variable {X : Cx} {pins : List (Addr × Obj)} {σ : St} {H : Hp} {s : Shared} {a : Addr} {y v : V} {u r : Value} {d e k : D} {n : Bool} {kvs : List (D × D)} {A : Around} {E : Value → Shared → Prop}
theorem paired_app {α β : Type} {R : α → β → Prop} : ∀ {l l' : List α} {m m' : List β}, Paired R l m → Paired R l' m' → Paired R (l ++ l') (m ++ m')
  | [], _, [], _, .nil, t => t
  | _ :: _, _, _ :: _, _, .cons h t, q => .cons h (paired_app t q)
theorem paired_len {α β : Type} {R : α → β → Prop} {l : List α} {m : List β} (h : Paired R l m) : l.length = m.length := Paired.length h
theorem nd_ok {w : World} {P : Program} {H' : Hp} {h' : Heap} {kks : List NestedKey} {kvs : List (V × V)} {xs : List (NestedKey × Addr × Value)} (z : kvs.length ≤ sizeLine) (hd : (a == sysModules) = false) (e : xs.map (·.1) = kks) (p : Paired NPair kvs xs)
    (dd : h'.DictOfH (nestedKind P w) a xs) : ObjOk P w H' h' a (NdO w a kks kvs) := by
  obtain ⟨o, es, ep, h1, h2, h3, h4, _, nd⟩ := dd
  refine ⟨⟨z, hd, by rw [← e]; exact nd, xs, e, p, o, es, ep, h1, h2, h3, h4⟩, ⟨o, h1⟩, fun g1 g2 q k => ?_⟩
  obtain ⟨q1, q2, q3, ys, q4, q5, o', es', ep', q6, q7⟩ := q
  exact ⟨q1, q2, q3, ys, q4, q5, o', es', ep', k _ q6, q7⟩
theorem da_set {Q : Unit → Shared → Prop} (hu : A.units + 64 < cLine) (I : Inv X pins σ H s) (g : OwnAt X.F H a (mkO n kvs)) (hk : Rep X.F H y k) (kg : kGood n k = true) (ry : RelV y u) (rv : RelV v r) (hv : Rep X.F H v e) (hl : kvs.length < sizeLine)
    (h : ∀ ho s', Inv X pins σ (upd H a ho) s' → (Kp H (upd H a ho) → OwnAt X.F (upd H a ho) a (mkO n (dput kvs k e))) → Q () s') : wpAny (model X.prog X.w) A (setItem (.ref a) u r) Q E s := by
  cases n with
  | false =>
    obtain ⟨kv0, es, h1, h2, rfl⟩ := g
    obtain ⟨key, rfl, rfl⟩ := good_k kg hk
    have hlen : es.length = kv0.length := by rw [← h2.len, List.length_map]
    have hl' : kv0.length < sizeLine := by
      rw [List.length_zip, List.length_map] at hl
      omega
    obtain ⟨ds', p1, p2⟩ := put_k (k := key) hv h2
    refine d_setItem (by omega) I (DPut.k h1 hl') ry rv fun s' I' => h _ s' I' fun kp => ?_
    rw [p2]
    exact ⟨_, ds', upd_same, p1.kp kp, rfl⟩
  | true =>
    obtain ⟨kks, kv0, es, h1, h0, h2, h3, rfl⟩ := g
    obtain ⟨kk, b, rfl, rfl, hc⟩ := good_n kg hk
    cases (show u = Value.ref b from ry)
    obtain ⟨z, hd, xs, e1, p, dd⟩ := nd_at I (.inl h1) h0 h2
    have l1 : kv0.length = kks.length := by have := h2.len; rw [List.length_map, List.length_map] at this; exact this
    have l2 : es.length = kks.length := by rw [← h3.len, List.length_map, l1]
    have l3 : kv0.length = xs.length := paired_len p
    have hl' : kv0.length < sizeLine := by
      rw [List.length_zip, List.length_map] at hl
      omega
    refine wpAny_setItem_heap (hsz := by omega) (nroom hu) (rep_key I hk hc) dd fun h' dd' hs => ?_
    obtain ⟨oo, hoo⟩ : ∃ q, h'.get? a = some q := let ⟨q, _, _, hq, _⟩ := dd'; ⟨q, hq⟩
    unfold storedH at dd'
    by_cases c : kk ∈ kks
    · have ca : (atKey xs kk).isSome = true := by
        rw [← e1] at c
        obtain ⟨x, hx, hxe⟩ := List.mem_map.mp c
        unfold atKey
        rw [Option.isSome_map, List.find?_isSome]
        exact ⟨x, hx, decide_eq_true hxe⟩
      rw [if_pos ca] at dd'
      obtain ⟨ds', p1, p2⟩ := put_n (k := kk) hv l1 h3
      have lz : (nrepl kk v kks kv0).length = kv0.length := by have := congrArg List.length (nrepl_fst (k := kk) (v := v) l1); rw [List.length_map, List.length_map] at this; exact this
      have I' : Inv X pins σ (upd H a (NdO X.w a kks (nrepl kk v kks kv0))) { s with heap := h', toks := s.toks + (nestedKind X.prog X.w).draws kk } :=
        d_write I (by rw [h1]; exact True.intro) hs ⟨oo, hoo⟩ (nd_ok (by omega) hd (by rw [keys_map_putAt, e1]) (nrepl_pair rv e1 p) dd')
      refine h _ _ I' fun kp => ?_
      refine ⟨kks, nrepl kk v kks kv0, ds', upd_same, h0, ?_, p1.kp kp, ?_⟩
      · rw [nrepl_fst l1]; exact h2.kp kp
      · unfold dput
        rw [nany l2, if_pos (decide_eq_true c)]
        exact p2
    · have ca : ¬ (atKey xs kk).isSome = true := fun z => by
        unfold atKey at z
        rw [Option.isSome_map, List.find?_isSome] at z
        obtain ⟨x, hx, hxe⟩ := z
        refine c ?_
        rw [← e1]
        exact List.mem_map.mpr ⟨x, hx, of_decide_eq_true hxe⟩
      rw [if_neg ca] at dd'
      have I' : Inv X pins σ (upd H a (NdO X.w a (kks ++ [kk]) (kv0 ++ [(.ref b, v)]))) { s with heap := h', toks := s.toks + (nestedKind X.prog X.w).draws kk } :=
        d_write I (by rw [h1]; exact True.intro) hs ⟨oo, hoo⟩ (nd_ok (by rw [List.length_append]; simp; omega) hd (by rw [List.map_append, e1]; rfl) (paired_app p (.cons ⟨rfl, rv⟩ .nil)) dd')
      refine h _ _ I' fun kp => ?_
      refine ⟨kks ++ [kk], kv0 ++ [(.ref b, v)], es ++ [e], upd_same, ?_, ?_, ?_, ?_⟩
      · rw [List.all_append, h0]
        simp [hc]
      · rw [List.map_append, List.map_append]
        exact (h2.append (.cons hk .nil)).kp kp
      · rw [List.map_append]
        exact (h3.append (.cons hv .nil)).kp kp
      · unfold dput
        rw [nany l2, if_neg (by rw [decide_eq_false c]; decide), List.map_append, List.zip_append (by rw [List.length_map, l2])]
        rfl
end
end Dt

/-! Dt2e: dicts by values: the raw entries. -/
namespace Dt
open PySem PySem.Spec L2
open PyProof.Rows hiding St
section
variable {X : Cx} {pins : List (Addr × Obj)} {σ : St} {H : Hp} {s : Shared} {a : Addr} {n : Bool} {kvs : List (D × D)}
theorem paired_get {α β : Type} {R : α → β → Prop} : ∀ {l : List α} {m : List β} {i : Nat} {x : α} {y : β}, Paired R l m → l[i]? = some x → m[i]? = some y → R x y
  | _ :: _, _ :: _, 0, _, _, .cons h _, e, f => by cases e; cases f; exact h
  | _ :: _, _ :: _, i + 1, _, _, .cons _ t, e, f => paired_get (i := i) t (by simpa using e) (by simpa using f)
theorem kvals {kvs : List (Key × V)} : ∀ {ds : List D}, ds.length = kvs.length → RepAll X.F H (kvs.map fun p => kV p.1) (((kvs.map fun p => keyD p.1).zip ds).map (·.1)) := by
  induction kvs with
  | nil => intro ds _; exact .nil
  | cons p r ih =>
    intro ds h
    cases ds with
    | nil => cases h
    | cons d ds =>
      refine .cons ?_ (ih (Nat.succ.inj h))
      obtain ⟨k, v⟩ := p
      cases k with
      | inl i => exact .int i
      | inr x => exact .str x
theorem kv_get {kvs : List (Key × V)} {vs : List (Key × Value)} (rel : KV kvs vs) {i : Nat} {k : Key} {u : Value} (h : vs[i]? = some (k, u)) : ∃ v, kvs[i]? = some (k, v) ∧ RelV v u := by
  unfold KV at rel
  induction rel generalizing i with
  | nil => cases h
  | @cons p q ps qs h1 t ih =>
    cases i with
    | zero =>
      have h : q = (k, u) := by simpa using h
      subst h
      obtain ⟨k', v'⟩ := p
      obtain ⟨e, r⟩ := h1
      cases e
      exact ⟨v', rfl, r⟩
    | succ i => exact ih (by simpa using h)
/-- the entries as they lie in the heap -/
theorem da_raw (I : Inv X pins σ H s) (g : DAt X.F H a n kvs) : (a == sysModules) = false ∧ ∃ es ep, s.heap.DictRaw a es ep ∧ es.size = kvs.length ∧ es.size ≤ sizeLine ∧
    ∃ ks vs : List V, RepAll X.F H ks (kvs.map (·.1)) ∧ RepAll X.F H vs (kvs.map (·.2)) ∧ ∀ i (hi : i < es.size), ∃ k v, ks[i]? = some k ∧ vs[i]? = some v ∧ RelV k es[i].key ∧ RelV v es[i].val := by
  cases g with
  | @k kv0 ds hr r =>
    obtain ⟨z, hd, vs, rel, dd⟩ := dk_rd I.hok hr
    obtain ⟨es, ep, h1, h2, h3⟩ := dd.raw
    have l1 : ds.length = kv0.length := by rw [← r.len, List.length_map]
    have l2 := rel.length
    refine ⟨hd, es, ep, h1, ?_, by rw [h2, ← l2]; exact z, kv0.map fun p => kV p.1, kv0.map (·.2), kvals l1, ?_, fun i hi => ?_⟩
    · rw [h2, List.length_zip, List.length_map]; omega
    · rw [show ((kv0.map fun p => keyD p.1).zip ds).map (·.2) = ds from List.map_snd_zip (by rw [List.length_map]; omega)]
      exact r
    · have hv : vs[i]? = some (vs[i]'(by omega)) := List.getElem?_eq_getElem (by omega)
      obtain ⟨g1, g2⟩ := h3 i hi _ _ hv
      obtain ⟨v, e1, e2⟩ := kv_get rel hv
      refine ⟨kV vs[i].1, v, by rw [List.getElem?_map, e1]; rfl, by rw [List.getElem?_map, e1]; rfl, ?_, by rw [g2]; exact e2⟩
      generalize vs[i].1 = key at g1
      generalize es[i].key = u at g1
      rcases keyIs_shape g1 with ⟨j, t, rfl, rfl⟩ | ⟨x, t, rfl, rfl⟩
      · exact ⟨t, rfl⟩
      · exact ⟨t, rfl⟩
  | @n kks kv0 ds hr c q r =>
    obtain ⟨z, hd, xs, e1, p, dd⟩ := nd_at I hr c q
    obtain ⟨es, ep, h1, h2, h3⟩ := dd.raw
    have l1 : kv0.length = kks.length := by have := q.len; rw [List.length_map, List.length_map] at this; exact this
    have l2 : ds.length = kks.length := by rw [← r.len, List.length_map, l1]
    have l3 : kv0.length = xs.length := paired_len p
    refine ⟨hd, es, ep, h1, ?_, by omega, kv0.map (·.1), kv0.map (·.2), ?_, ?_, fun i hi => ?_⟩
    · rw [h2, List.length_zip, List.length_map]; omega
    · rw [show ((kks.map NestedKey.data).zip ds).map (·.1) = kks.map NestedKey.data from List.map_fst_zip (by rw [List.length_map]; omega)]
      exact q
    · rw [show ((kks.map NestedKey.data).zip ds).map (·.2) = ds from List.map_snd_zip (by rw [List.length_map]; omega)]
      exact r
    · obtain ⟨y, g1, g2, g3, _⟩ := h3 i hi
      have hv : kv0[i]? = some (kv0[i]'(by omega)) := List.getElem?_eq_getElem (by omega)
      have hp : NPair (kv0[i]'(by omega)) y := paired_get p hv g1
      exact ⟨_, _, by rw [List.getElem?_map, hv]; rfl, by rw [List.getElem?_map, hv]; rfl, by rw [g2]; show RelV (kv0[i]'(by omega)).1 _; rw [hp.1]; rfl, by rw [g3]; exact hp.2⟩
theorem da_len {Q : Value → Shared → Prop} {A : Around} {E : Value → Shared → Prop} (I : Inv X pins σ H s) (g : DAt X.F H a n kvs) (h : ∀ t s', Inv X pins σ H s' → Q (.int kvs.length t) s') : wpAny (model X.prog X.w) A (call (.builtin "len") [.ref a]) Q E s := by
  cases g with
  | @k kv0 ds hr r =>
    have l1 : ds.length = kv0.length := by rw [← r.len, List.length_map]
    rw [List.length_zip, List.length_map, l1, Nat.min_self] at h
    exact d_len I hr h
  | @n kks kv0 ds hr c q r =>
    obtain ⟨z, hd, xs, e1, p, dd⟩ := nd_at I hr c q
    have l1 : kv0.length = kks.length := by have := q.len; rw [List.length_map, List.length_map] at this; exact this
    have l2 : ds.length = kks.length := by rw [← r.len, List.length_map, l1]
    have l3 : kv0.length = xs.length := paired_len p
    rw [List.length_zip, List.length_map, l2, Nat.min_self, ← l1, l3] at h
    exact call_len_dictH hd dd (by rw [sizeLine_eq] at z; omega) (h _ _ (I.tok _))
/-- list(d) -/
theorem vals_nth {vs : List V} {us : List Value} (hl : us.length = vs.length) (h : ∀ (i : Nat) (u : Value), us[i]? = some u → ∃ v, vs[i]? = some v ∧ RelV v u) : Vals vs us := by
  induction vs generalizing us with
  | nil => cases us with
    | nil => exact .nil
    | cons u r => cases hl
  | cons v vs ih => cases us with
    | nil => cases hl
    | cons u us =>
      refine .cons ?_ (ih (Nat.succ.inj hl) fun i w e => h (i + 1) w (by simpa using e))
      obtain ⟨v', h1, h2⟩ := h 0 u rfl
      cases h1
      exact h2
theorem da_list {Q : Value → Shared → Prop} {A : Around} {E : Value → Shared → Prop} (hh : A.handled = none) (I : Inv X pins σ H s) (g : DAt X.F H a n kvs)
    (h : ∀ ks p s', H p = none → RepAll X.F H ks (kvs.map (·.1)) → Inv X pins σ (upd H p (.lst ks)) s' → Q (.ref p) s') : wpAny (model X.prog X.w) A (call (.type "list") [.ref a]) Q E s := by
  obtain ⟨lo, es, ep, hraw, hsz, hsl, ks, _, rk, _, hks⟩ := da_raw I g
  refine PySem.W.kdl_call (KdlSrc.rawDict lo) hh hraw hsl fun h' tk acc c hk hg hacc => ?_
  have hlk : ks.length = kvs.length := by rw [rk.len, List.length_map]
  have hal : acc.toList.length = ks.length := by rw [Array.length_toList, hacc.1, hsz, hlk]
  have hV : Vals ks acc.toList := vals_nth hal fun j u e => by
    obtain ⟨hi, rfl⟩ := hacc.2 j u (by rw [← Array.getElem?_toList]; exact e)
    obtain ⟨k', v', q1, _, q3, _⟩ := hks j hi
    exact ⟨k', q1, q3⟩
  have hz : ks.length ≤ sizeLine := by rw [hlk, ← hsz]; exact hsl
  exact h ks _ _ I.fresh rk (I.laid (t' := tk) hk (Nat.le_refl _) ⟨hz, acc.toList, c, hV, by simpa using hg⟩)
/-- a dict's item, by values -/
theorem ixd_of {P : Program} {w : World} {A : Around} {E : Value → Shared → Prop} {s : Shared} {value slice : Expr} {T id : String} {o i : Value} {Q : Value → Shared → Prop} (hT : s.TypeIs o T)
    (hl : typeLookup (.type T) "__getitem__" = pure (some (.builtin id))) (hs : subscripted slice false o i = operate [o, i] (getItem o i)) (h : wpAny (model P w) A (getItem o i) Q E s) : wpAny (model P w) A (subscriptTail value slice o i) Q E s := by
  unfold subscriptTail
  refine wpAny_bind ?_
  rw [getitemInPython_of_ne hT.not_modules]
  refine wpAny_bind (wpAny_specialOf hT hl ?_)
  have fin : wpAny (model P w) A (subscripted slice false o i) (fun r s₃ => wpAny (model P w) A (letTemporaryGo value o r >>= fun _ => pure r) Q E s₃) E s := by
    rw [hs]
    exact wpAny_operating (wpAny_mono h (fun r s₃ h₃ => wpAny_bind (wpAny_letTemporaryGo (wpAny_pure h₃))) fun _ _ x => x)
  first
    | exact wpAny_pure (wpAny_bind fin)
    | exact wpAny_bind (wpAny_pure (wpAny_bind fin))
    | exact wpAny_bind fin
theorem da_type (I : Inv X pins σ H s) (g : DAt X.F H a n kvs) : s.TypeIs (.ref a) "dict" := by
  obtain ⟨_, es, ep, h, _⟩ := da_raw I g
  exact h.typeIs
end
end Dt

/-! Dt3: comparisons, in, items, slices, built-in calls, by data. -/
namespace Dt
open PySem PySem.Spec L2
open PyProof.Rows hiding St
open PySem.W (alike alikeAll dataLt)
section
variable {X : Cx}
/-! ### == != -/
def cmpOk (d e : D) : Bool := d.plain && e.plain && decide (min d.depth e.depth ≤ 60)
theorem cmpOk_of {d e : D} (h : cmpOk d e = true) : d.plain = true ∧ e.plain = true ∧ min d.depth e.depth ≤ 60 := by
  unfold cmpOk at h
  simp only [Bool.and_eq_true, decide_eq_true_eq] at h
  exact ⟨h.1.1, h.1.2, h.2⟩
def dEq : D → D → Option D
  | .int i, .int j => some (.bool (i == j))
  | .str x, .str y => some (.bool (x == y))
  | d, e => if cmpOk d e = true then some (.bool (PyData.eqv d e)) else none
def dNe : D → D → Option D
  | .int i, .int j => some (.bool (!(i == j)))
  | .str x, .str y => some (.bool (!(x == y)))
  | d, e => if cmpOk d e = true then some (.bool (!PyData.eqv d e)) else none
theorem dEq_some {d e z : D} (h : dEq d e = some z) : cmpOk d e = true ∧ z = .bool (PyData.eqv d e) := by
  unfold dEq at h
  split at h
  · cases h; exact ⟨by simp [cmpOk, PyData.plain, PyData.depth], by simp [PyData.eqv]⟩
  · cases h; exact ⟨by simp [cmpOk, PyData.plain, PyData.depth], by simp [PyData.eqv]⟩
  · split at h
    · rename_i hc; cases h; exact ⟨hc, rfl⟩
    · cases h
theorem dNe_some {d e z : D} (h : dNe d e = some z) : cmpOk d e = true ∧ z = .bool (!PyData.eqv d e) := by
  unfold dNe at h
  split at h
  · cases h; exact ⟨by simp [cmpOk, PyData.plain, PyData.depth], by simp [PyData.eqv]⟩
  · cases h; exact ⟨by simp [cmpOk, PyData.plain, PyData.depth], by simp [PyData.eqv]⟩
  · split at h
    · rename_i hc; cases h; exact ⟨hc, rfl⟩
    · cases h
theorem opEq (hu : X.A.units + 64 < cLine) : OpR X (compareOp .Eq) (rD X.F dEq) := by
  intro pins s σ H x y v u Q I rx ry ⟨d, e, z, hd, he, hz, k⟩
  obtain ⟨hc, rfl⟩ := dEq_some hz
  obtain ⟨h1, h2, h3⟩ := cmpOk_of hc
  obtain ⟨as, r1⟩ := hd.reads I h1 rx
  obtain ⟨bs, r2⟩ := he.reads I h2 ry
  exact SeqAt.eq_plain r1 r2 h1 h2 (by omega) ⟨.bl _, H, I, rfl, k _ _ (Same.refl H) (.bl _)⟩
theorem opNe (hu : X.A.units + 64 < cLine) : OpR X (compareOp .NotEq) (rD X.F dNe) := by
  intro pins s σ H x y v u Q I rx ry ⟨d, e, z, hd, he, hz, k⟩
  obtain ⟨hc, rfl⟩ := dNe_some hz
  obtain ⟨h1, h2, h3⟩ := cmpOk_of hc
  obtain ⟨as, r1⟩ := hd.reads I h1 rx
  obtain ⟨bs, r2⟩ := he.reads I h2 ry
  exact SeqAt.ne_plain r1 r2 h1 h2 (by omega) ⟨.bl _, H, I, rfl, k _ _ (Same.refl H) (.bl _)⟩
/-! ### < <= > >= -/
def ordOk (d e : D) : Bool := d.plain && e.plain && alike d e && decide (min d.depth e.depth ≤ 60) && (match d with | .none => false | _ => true)
theorem ordOk_of {d e : D} (h : ordOk d e = true) : d.plain = true ∧ e.plain = true ∧ alike d e = true ∧ min d.depth e.depth ≤ 60 ∧ d ≠ .none := by
  unfold ordOk at h
  simp only [Bool.and_eq_true, decide_eq_true_eq] at h
  exact ⟨h.1.1.1.1, h.1.1.1.2, h.1.1.2, h.1.2, fun e => by have := h.2; rw [e] at this; cases this⟩
def dLt : D → D → Option D
  | .int i, .int j => some (.bool (decide (i < j)))
  | .str x, .str y => some (.bool (decide (x.cps.toList < y.cps.toList)))
  | d, e => if ordOk d e = true then some (.bool (dataLt d e)) else none
def dLe : D → D → Option D
  | .int i, .int j => some (.bool (decide (i ≤ j)))
  | .str x, .str y => some (.bool (!decide (y.cps.toList < x.cps.toList)))
  | d, e => if ordOk d e = true then some (.bool (!dataLt e d)) else none
def dGt : D → D → Option D
  | .int i, .int j => some (.bool (decide (j < i)))
  | .str x, .str y => some (.bool (decide (y.cps.toList < x.cps.toList)))
  | d, e => if ordOk d e = true then some (.bool (dataLt e d)) else none
def dGe : D → D → Option D
  | .int i, .int j => some (.bool (decide (j ≤ i)))
  | d, e => if ordOk d e = true then some (.bool (!dataLt d e)) else none
theorem opLt (hu : X.A.units + 64 < cLine) : OpR X (compareOp .Lt) (rD X.F dLt) := by
  intro pins s σ H x y v u Q I rx ry ⟨d, e, z, hd, he, hz, k⟩
  unfold dLt at hz
  split at hz
  · cases hz
    obtain rfl := hd.intv
    obtain rfl := he.intv
    exact op_lt pins s σ H _ _ _ _ Q I rx ry ⟨_, _, rfl, rfl, k _ _ (Same.refl H) (.bl _)⟩
  · cases hz
    obtain rfl := hd.strv
    obtain rfl := he.strv
    exact op_lt_str pins s σ H _ _ _ _ Q I rx ry ⟨_, _, rfl, rfl, k _ _ (Same.refl H) (.bl _)⟩
  · split at hz
    · rename_i hc
      cases hz
      obtain ⟨h1, h2, h3, h4, h5⟩ := ordOk_of hc
      obtain ⟨as, r1⟩ := hd.reads I h1 rx
      obtain ⟨bs, r2⟩ := he.reads I h2 ry
      exact PySem.W.rcLt_alike d e X.A s v u as bs r1 r2 h3 h5 (by omega) _ _ _ _ ⟨.bl _, H, I, rfl, k _ _ (Same.refl H) (.bl _)⟩
    · cases hz
theorem opLe (hu : X.A.units + 64 < cLine) : OpR X (compareOp .LtE) (rD X.F dLe) := by
  intro pins s σ H x y v u Q I rx ry ⟨d, e, z, hd, he, hz, k⟩
  unfold dLe at hz
  split at hz
  · cases hz
    obtain rfl := hd.intv
    obtain rfl := he.intv
    exact op_le pins s σ H _ _ _ _ Q I rx ry ⟨_, _, rfl, rfl, k _ _ (Same.refl H) (.bl _)⟩
  · cases hz
    obtain rfl := hd.strv
    obtain rfl := he.strv
    exact op_le_str pins s σ H _ _ _ _ Q I rx ry ⟨_, _, rfl, rfl, k _ _ (Same.refl H) (.bl _)⟩
  · split at hz
    · rename_i hc
      cases hz
      obtain ⟨h1, h2, h3, h4, h5⟩ := ordOk_of hc
      obtain ⟨as, r1⟩ := hd.reads I h1 rx
      obtain ⟨bs, r2⟩ := he.reads I h2 ry
      exact PySem.W.rcLe_alike d e X.A s v u as bs r1 r2 h3 h5 (by omega) _ _ _ _ ⟨.bl _, H, I, rfl, k _ _ (Same.refl H) (.bl _)⟩
    · cases hz
theorem opGt (hu : X.A.units + 64 < cLine) : OpR X (compareOp .Gt) (rD X.F dGt) := by
  intro pins s σ H x y v u Q I rx ry ⟨d, e, z, hd, he, hz, k⟩
  unfold dGt at hz
  split at hz
  · cases hz
    obtain rfl := hd.intv
    obtain rfl := he.intv
    exact op_gt pins s σ H _ _ _ _ Q I rx ry ⟨_, _, rfl, rfl, k _ _ (Same.refl H) (.bl _)⟩
  · cases hz
    obtain rfl := hd.strv
    obtain rfl := he.strv
    exact op_gt_str pins s σ H _ _ _ _ Q I rx ry ⟨_, _, rfl, rfl, k _ _ (Same.refl H) (.bl _)⟩
  · split at hz
    · rename_i hc
      cases hz
      obtain ⟨h1, h2, h3, h4, h5⟩ := ordOk_of hc
      obtain ⟨as, r1⟩ := hd.reads I h1 rx
      obtain ⟨bs, r2⟩ := he.reads I h2 ry
      exact PySem.W.rcGt_alike d e X.A s v u as bs r1 r2 h3 h5 (by omega) _ _ _ _ ⟨.bl _, H, I, rfl, k _ _ (Same.refl H) (.bl _)⟩
    · cases hz
theorem opGe (hu : X.A.units + 64 < cLine) : OpR X (compareOp .GtE) (rD X.F dGe) := by
  intro pins s σ H x y v u Q I rx ry ⟨d, e, z, hd, he, hz, k⟩
  unfold dGe at hz
  split at hz
  · cases hz
    obtain rfl := hd.intv
    obtain rfl := he.intv
    exact op_ge pins s σ H _ _ _ _ Q I rx ry ⟨_, _, rfl, rfl, k _ _ (Same.refl H) (.bl _)⟩
  · split at hz
    · rename_i hc
      cases hz
      obtain ⟨h1, h2, h3, h4, h5⟩ := ordOk_of hc
      obtain ⟨as, r1⟩ := hd.reads I h1 rx
      obtain ⟨bs, r2⟩ := he.reads I h2 ry
      exact PySem.W.rcGe_alike d e X.A s v u as bs r1 r2 h3 h5 (by omega) _ _ _ _ ⟨.bl _, H, I, rfl, k _ _ (Same.refl H) (.bl _)⟩
    · cases hz
/-! ### is None -/
def isNn : D → Bool
  | .none => true
  | _ => false
def dIsN (d e : D) : Option D := match e with
  | .none => some (.bool (isNn d))
  | _ => none
def dNotN (d e : D) : Option D := match e with
  | .none => some (.bool (!isNn d))
  | _ => none
theorem isN_of {K : Fg} {H : Hp} {v : V} {d : D} (h : Rep K H v d) : decide (v = .non) = isNn d := by
  cases h <;> simp [isNn, ndD, insD, fnD]
theorem opIsN : OpR X (compareOp .Is) (rD X.F dIsN) := by
  intro pins s σ H x y v u Q I rx ry ⟨d, e, z, hd, he, hz, k⟩
  unfold dIsN at hz
  split at hz
  · cases hz
    obtain rfl := he.nonv
    exact op_isN pins s σ H _ _ _ _ Q I rx ry ⟨rfl, k _ _ (Same.refl H) (by rw [isN_of hd]; exact .bl _)⟩
  · cases hz
theorem opNotN : OpR X (compareOp .IsNot) (rD X.F dNotN) := by
  intro pins s σ H x y v u Q I rx ry ⟨d, e, z, hd, he, hz, k⟩
  unfold dNotN at hz
  split at hz
  · cases hz
    obtain rfl := he.nonv
    refine op_notN pins s σ H _ _ _ _ Q I rx ry ⟨rfl, k _ _ (Same.refl H) ?_⟩
    rw [isN_of hd]
    exact .bl _
  · cases hz
/-! ### in -/
def inB (d : D) : D → Option Bool
  | .list ds => if d.plain = true ∧ PyData.plainAll ds = true ∧ min (PyData.depthAll ds) d.depth ≤ 60 then some (ds.any fun y => PyData.eqv y d) else none
  | .tuple ds => if d.plain = true ∧ PyData.plainAll ds = true ∧ min (PyData.depthAll ds) d.depth ≤ 60 then some (ds.any fun y => PyData.eqv y d) else none
  | .str z => match d with
    | .str x => match x.cps.toList with
      | [c] => some (decide (c ∈ z.cps.toList))
      | _ => none
    | _ => none
  | e => match kvsOf e with
    | some (n, kvs) => if kGood n d = true then some (look kvs d).isSome else none
    | none => none
def dIn (d e : D) : Option D := (inB d e).map .bool
def dNin (d e : D) : Option D := (inB d e).map fun b => .bool (!b)
theorem str_one {x : Str} {c : Nat} (h : x.cps.toList = [c]) : x = ⟨#[c]⟩ := by
  obtain ⟨a⟩ := x
  congr 1
  exact Array.ext' h
theorem opIn (hu : X.A.units + 64 < cLine) : OpR X (compareOp .In) (rD X.F dIn) := by
  intro pins s σ H x y v u Q I rx ry ⟨d, e, z, hd, he, hz, k⟩
  obtain ⟨b, hb, rfl⟩ := Option.map_eq_some_iff.mp hz
  unfold inB at hb
  split at hb
  · split at hb
    · rename_i ds hc
      cases hb
      obtain ⟨as, r1⟩ := hd.reads I hc.1 rx
      obtain ⟨bs, r2⟩ := he.reads I (by rw [PyData.plain]; exact hc.2.1) ry
      exact SeqAt.in_list_data r2 r1 hc.2.1 hc.1 (by omega) ⟨.bl _, H, I, rfl, k _ _ (Same.refl H) (.bl _)⟩
    · cases hb
  · split at hb
    · rename_i ds hc
      cases hb
      obtain ⟨as, r1⟩ := hd.reads I hc.1 rx
      obtain ⟨bs, r2⟩ := he.reads I (by rw [PyData.plain]; exact hc.2.1) ry
      exact SeqAt.in_tuple_data r2 r1 hc.2.1 hc.1 (by omega) ⟨.bl _, H, I, rfl, k _ _ (Same.refl H) (.bl _)⟩
    · cases hb
  · split at hb
    · split at hb
      · rename_i h1
        cases hb
        obtain rfl := hd.strv
        obtain rfl := he.strv
        exact op_in_sign pins s σ H _ _ _ _ Q I rx ry ⟨_, _, by rw [str_one h1], rfl, k _ _ (Same.refl H) (.bl _)⟩
      · cases hb
    · cases hb
  · split at hb
    · rename_i n kvs he'
      split at hb
      · rename_i hg
        cases hb
        obtain ⟨a, rfl, g⟩ := he.dat he'
        cases (show u = Value.ref a from ry)
        exact da_in hu I g hd hg rx fun s' I' => ⟨.bl _, H, I', rfl, k _ _ (Same.refl H) (.bl _)⟩
      · cases hb
    · cases hb
theorem opNin (hu : X.A.units + 64 < cLine) : OpR X (compareOp .NotIn) (rD X.F dNin) := by
  intro pins s σ H x y v u Q I rx ry ⟨d, e, z, hd, he, hz, k⟩
  obtain ⟨b, hb, rfl⟩ := Option.map_eq_some_iff.mp hz
  unfold inB at hb
  split at hb
  · split at hb
    · rename_i ds hc
      cases hb
      obtain ⟨as, r1⟩ := hd.reads I hc.1 rx
      obtain ⟨bs, r2⟩ := he.reads I (by rw [PyData.plain]; exact hc.2.1) ry
      exact SeqAt.notIn_list_data r2 r1 hc.2.1 hc.1 (by omega) ⟨.bl _, H, I, rfl, k _ _ (Same.refl H) (.bl _)⟩
    · cases hb
  · split at hb
    · rename_i ds hc
      cases hb
      obtain ⟨as, r1⟩ := hd.reads I hc.1 rx
      obtain ⟨bs, r2⟩ := he.reads I (by rw [PyData.plain]; exact hc.2.1) ry
      exact SeqAt.notIn_tuple_data r2 r1 hc.2.1 hc.1 (by omega) ⟨.bl _, H, I, rfl, k _ _ (Same.refl H) (.bl _)⟩
    · cases hb
  · split at hb
    · split at hb
      · rename_i h1
        cases hb
        obtain rfl := hd.strv
        obtain rfl := he.strv
        exact op_notIn_sign pins s σ H _ _ _ _ Q I rx ry ⟨_, _, by rw [str_one h1], rfl, k _ _ (Same.refl H) (.bl _)⟩
      · cases hb
    · cases hb
  · split at hb
    · rename_i n kvs he'
      split at hb
      · rename_i hg
        cases hb
        obtain ⟨a, rfl, g⟩ := he.dat he'
        cases (show u = Value.ref a from ry)
        exact da_notIn hu I g hd hg rx fun s' I' => ⟨.bl _, H, I', rfl, k _ _ (Same.refl H) (.bl _)⟩
      · cases hb
    · cases hb
/-! ### items, slices -/
def dIx : D → D → Option D
  | .list ds, .int i => atI ds i
  | .tuple ds, .int i => atI ds i
  | .str z, .int i => if z.length ≤ sizeLine then (atI z.cps.toList i).map fun c => .str ⟨#[c]⟩ else none
  | e, k => match kvsOf e with
    | some (n, kvs) => if kGood n k = true then look kvs k else none
    | none => none
theorem RepAll.atI {K : Fg} {H : Hp} {vs : List V} {ds : List D} {i : Int} {d : D} (h : RepAll K H vs ds) (e : L2.atI ds i = some d) : ∃ v, L2.atI vs i = some v ∧ Rep K H v d := by
  unfold L2.atI at *
  rw [h.len]
  cases hj : ixN ds.length i with
  | none => rw [hj] at e; cases e
  | some j =>
    rw [hj] at e
    obtain ⟨v, h1, h2⟩ := h.get (i := j) (d := d) e
    exact ⟨v, h1, h2⟩
theorem ixD (hu : X.A.units + 64 < cLine) : IxR X (rD X.F dIx) := by
  intro a b pins s σ H x y v u Q I rx ry ⟨d, e, z, hd, he, hz, k⟩ hs
  unfold dIx at hz
  split at hz
  · obtain ⟨p, xs, rfl, h1, r1⟩ := hd.lstv
    obtain rfl := he.intv
    obtain ⟨w, e1, r2⟩ := r1.atI hz
    exact ix_list a b pins s σ H _ _ v u Q I rx ry ⟨p, xs, _, w, rfl, rfl, h1.sq, e1, k _ _ (Same.refl H) r2⟩ hs
  · obtain ⟨p, xs, rfl, h1, r1⟩ := hd.tupv
    obtain rfl := he.intv
    obtain ⟨w, e1, r2⟩ := r1.atI hz
    exact ix_tup a b pins s σ H _ _ v u Q I rx ry ⟨p, xs, _, w, rfl, rfl, h1, e1, k _ _ (Same.refl H) r2⟩ hs
  · split at hz
    · rename_i hl
      obtain ⟨c, hc, rfl⟩ := Option.map_eq_some_iff.mp hz
      obtain rfl := hd.strv
      obtain rfl := he.intv
      exact ix_str a b pins s σ H _ _ v u Q I rx ry ⟨_, _, c, rfl, rfl, hl, hc, k _ _ (Same.refl H) (.str _)⟩ hs
    · cases hz
  · split at hz
    · rename_i n kvs he'
      split at hz
      · rename_i hg
        obtain ⟨p, rfl, g⟩ := hd.dat he'
        cases (show v = Value.ref p from rx)
        exact ixd_of (da_type I g) PySem.F.slot_dict_getitem.lookup hs (da_getItem hu I g he hg ry hz fun v w s' I' r' h' => ⟨v, H, I', r', k _ _ (Same.refl H) h'⟩)
      · cases hz
    · cases hz
def cutD (xs : List D) (lo hi : Option Int) : List D := (xs.drop (HT.sIx xs.length 0 lo)).take (HT.sIx xs.length xs.length hi - HT.sIx xs.length 0 lo)
def dSl (d : D) (lo hi : Option Int) : Option D := match d with
  | .list ds => some (.list (cutD ds lo hi))
  | .tuple ds => some (.tuple (cutD ds lo hi))
  | .str z => if z.length ≤ sizeLine then some (.str (cutS z lo hi)) else none
  | _ => none
theorem RepAll.cut {K : Fg} {H : Hp} {vs : List V} {ds : List D} (h : RepAll K H vs ds) (lo hi : Option Int) : RepAll K H (cutV vs lo hi) (cutD ds lo hi) := by
  unfold cutV cutD
  rw [h.len]
  exact (h.drop _).take _
def sD (K : Fg) (g : D → Option Int → Option Int → Option D) : V → Option Int → Option Int → Hp → VK → Prop := fun x lo hi H Q => ∃ d z, Rep K H x d ∧ g d lo hi = some z ∧ ∀ v H', Same H H' → Rep K H' v z → Q v H'
theorem slD : SlR X (sD X.F dSl) := by
  intro pins s σ H x v vl vu lo hi sl Q I rx hsl pl pu ⟨d, z, hd, hz, k⟩
  unfold dSl at hz
  split at hz
  · cases hz
    obtain ⟨a, xs, rfl, h1, r1⟩ := hd.lstv
    obtain ⟨T, id, h1, h2, h3⟩ := sl_list pins s σ H _ v vl vu lo hi sl (fun v H' => ∃ p, v = .ref p ∧ H p = none ∧ Same H H' ∧ OwnAt X.F H' p (.lst _)) I rx hsl pl pu ⟨a, xs, rfl, h1.sq, fun p hp => ⟨p, rfl, hp, same_new hp, _, upd_same, (r1.cut lo hi).kp (.same (same_new hp))⟩⟩
    exact ⟨T, id, h1, h2, thn h3 fun _ _ q => ep_fz q k⟩
  · rename_i ds
    cases hz
    obtain ⟨a, xs, rfl, h1, r1⟩ := hd.tupv
    refine sl_tupA pins s σ H _ v vl vu lo hi sl Q I rx hsl pl pu ⟨a, xs, rfl, h1, fun e => ?_, fun e p hp => k _ _ (same_new hp) (.tup (.of upd_same) ((r1.cut lo hi).kp (.same (same_new hp))))⟩
    have e2 : cutD ds lo hi = ds := by
      unfold cutD
      rw [← r1.len, e.1, e.2]
      simp only [List.drop_zero, Nat.sub_zero]
      exact List.take_of_length_le (Nat.le_of_eq r1.len.symm)
    rw [e2] at k
    exact k _ _ (Same.refl H) hd
  · split at hz
    · rename_i hl
      cases hz
      obtain rfl := hd.strv
      exact sl_str pins s σ H _ v vl vu lo hi sl Q I rx hsl pl pu ⟨_, rfl, hl, k _ _ (Same.refl H) (.str _)⟩
    · cases hz
  · cases hz
end
end Dt

/-! Dt4: statements, loops, the call of a def. -/
namespace Dt
open PySem PySem.Spec L2
open PyProof.Rows hiding St
section
variable {X : Cx}
/-! ### blocks, if, return -/
def sNil : FS := fun ss => .nx ss
def Out.then (r : Out) (g : SS → Out) : Out := match r with
  | .nx ss => g ss
  | r => r
def sSeq (a b : FS) : FS := fun ss => (a ss).then b
/-- what is wanted at an end -/
def Post (K : Fg) (fx : Fx) (E : Ends) (H : Hp) : Out → Prop
  | .no => False
  | .nx ss' => ∀ σ' H', Kp H H' → FR K fx ss' σ' H' → E.nx σ' H'
  | .rt r ss' => ∀ v σ' H', Kp H H' → FR K fx ss' σ' H' → RetR K fx ss' σ' H' v r → E.rt v H'
  | .bk ss' => ∀ σ' H', Kp H H' → FR K fx ss' σ' H' → E.bk σ' H'
  | .ct ss' => ∀ σ' H', Kp H H' → FR K fx ss' σ' H' → E.ct σ' H'
theorem tS_iff {K : Fg} {f : FS} {E : Ends} {σ : St} {H : Hp} : tS K f E σ H ↔ ∃ fx ss, FR K fx ss σ H ∧ Post K fx E H (f ss) := by
  constructor
  · rintro ⟨fx, ss, a, b⟩
    refine ⟨fx, ss, a, ?_⟩
    cases e : f ss <;> rw [e] at b <;> exact b
  · rintro ⟨fx, ss, a, b⟩
    refine ⟨fx, ss, a, ?_⟩
    cases e : f ss <;> rw [e] at b <;> exact b
theorem Post.kp {K : Fg} {fx : Fx} {E : Ends} {H H' : Hp} {o : Out} (k : Kp H H') (h : Post K fx E H o) : Post K fx E H' o := by
  cases o with
  | no => exact h
  | nx ss => exact fun σ' H2 k2 f => h σ' H2 (k.trans k2) f
  | rt r ss => exact fun v σ' H2 k2 f => h v σ' H2 (k.trans k2) f
  | bk ss => exact fun σ' H2 k2 f => h σ' H2 (k.trans k2) f
  | ct ss => exact fun σ' H2 k2 f => h σ' H2 (k.trans k2) f
theorem bn : PSs X [] (tS X.F sNil) := by
  refine pss_nil.imp fun E σ H q => ?_
  obtain ⟨fx, ss, f, k⟩ := q
  exact k σ H (Kp.refl H) f
variable {st : Stmt} {rest : List Stmt} {fa fb : FS}
theorem bc (h1 : PS X st (tS X.F fa)) (h2 : PSs X rest (tS X.F fb)) : PSs X (st :: rest) (tS X.F (sSeq fa fb)) := by
  refine (pss_cons h1 h2).imp fun E σ H q => ?_
  obtain ⟨fx, ss, f, k⟩ := tS_iff.mp q
  refine tS_iff.mpr ⟨fx, ss, f, ?_⟩
  unfold sSeq Out.then at k
  cases e : fa ss with
  | no => rw [e] at k; exact k
  | nx s1 => rw [e] at k; exact fun σ' H' k1 f1 => tS_iff.mpr ⟨fx, s1, f1, k.kp k1⟩
  | rt r s1 => rw [e] at k; exact k
  | bk s1 => rw [e] at k; exact k
  | ct s1 => rw [e] at k; exact k
theorem b1 (h1 : PS X st (tS X.F fa)) : PSs X [st] (tS X.F fa) := pss_one h1
variable {a b c : Expr} {pos : Pos} {f g : FE} {fn : FN} {fc : FB}
def sIf (c : FB) (a b : FS) : FS := fun ss => match c ss with
  | .ok x s1 => if x = true then a s1 else b s1
  | .no => .no
theorem sif {u w : List Stmt} (hc : PT X c (tT X.F fc)) (ha : PSs X u (tS X.F fa)) (hb : PSs X w (tS X.F fb)) : PS X (.If c u w pos) (tS X.F (sIf fc fa fb)) := by
  refine (ps_if hc ha hb).imp fun E σ H q => ?_
  obtain ⟨fx, ss, f, k⟩ := tS_iff.mp q
  unfold sIf at k
  cases e : fc ss with
  | no => rw [e] at k; exact k.elim
  | ok x s1 =>
    rw [e] at k
    refine ⟨fx, ss, x, s1, f, e, fun H1 k1 f1 => ?_⟩
    show if x = true then _ else _
    by_cases hx : x = true
    · rw [if_pos hx]
      simp only [if_pos hx] at k
      exact tS_iff.mpr ⟨fx, s1, f1, k.kp k1⟩
    · rw [if_neg hx]
      simp only [if_neg hx] at k
      exact tS_iff.mpr ⟨fx, s1, f1, k.kp k1⟩
def sRet (f : FE) : FS := fun ss => match f ss with
  | .ok d s1 => .rt (.imm d) s1
  | .no => .no
def sRetN (f : FN) : FS := fun ss => match f ss with
  | .ok d s1 => .rt (.own d) s1
  | .no => .no
theorem sret (h : PE X a (tD X.F f)) : PS X (.Return (some a) pos) (tS X.F (sRet f)) := by
  refine (ps_ret h).imp fun E σ H q => ?_
  obtain ⟨fx, ss, fr, k⟩ := tS_iff.mp q
  unfold sRet at k
  cases e : f ss with
  | no => rw [e] at k; exact k.elim
  | ok d s1 => rw [e] at k; exact ⟨fx, ss, d, s1, fr, e, fun v H' k1 f1 r => k v σ H' k1 f1 r⟩
theorem sretN (h : PE X a (tN X.F fn)) : PS X (.Return (some a) pos) (tS X.F (sRetN fn)) := by
  refine (ps_ret h).imp fun E σ H q => ?_
  obtain ⟨fx, ss, fr, k⟩ := tS_iff.mp q
  unfold sRetN at k
  cases e : fn ss with
  | no => rw [e] at k; exact k.elim
  | ok d s1 => rw [e] at k; exact ⟨fx, ss, d, s1, fr, e, fun p H' k1 f1 r n => k _ σ H' k1 f1 ⟨p, rfl, r, n⟩⟩
def sRet0 : FS := fun ss => .rt (.imm .none) ss
theorem sret0 : PS X (.Return none pos) (tS X.F sRet0) := by
  refine ps_retN.imp fun E σ H q => ?_
  obtain ⟨fx, ss, fr, k⟩ := q
  exact k _ σ H (Kp.refl H) fr .non
def sExpr (f : FE) : FS := fun ss => match f ss with
  | .ok _ s1 => .nx s1
  | .no => .no
theorem sexpr (h : PE X a (tD X.F f)) (hs : swapsWith a none pos.line X.env = pure false := by rfl) : PS X (.Expr a pos) (tS X.F (sExpr f)) := by
  refine (ps_expr h hs).imp fun E σ H q => ?_
  obtain ⟨fx, ss, fr, k⟩ := tS_iff.mp q
  unfold sExpr at k
  cases e : f ss with
  | no => rw [e] at k; exact k.elim
  | ok d s1 => rw [e] at k; exact ⟨fx, ss, d, s1, fr, e, fun v H' k1 f1 r => k σ H' k1 f1⟩
def sBk : FS := fun ss => .bk ss
def sCt : FS := fun ss => .ct ss
theorem sbk : PS X (.Break pos) (tS X.F sBk) := ps_break.imp fun E σ H ⟨fx, ss, fr, k⟩ => k σ H (Kp.refl H) fr
theorem sct : PS X (.Continue pos) (tS X.F sCt) := ps_continue.imp fun E σ H ⟨fx, ss, fr, k⟩ => k σ H (Kp.refl H) fr
theorem spass : PS X (.Pass pos) (tS X.F sNil) := ps_pass.imp fun E σ H ⟨fx, ss, fr, k⟩ => k σ H (Kp.refl H) fr
/-! ### stores -/
abbrev GF := D → SS → Option SS
/-- a target whose stores touch the slots vs alone -/
def gD (K : Fg) (g : GF) (vs : List Nat) : TG := fun v σ H Q => ∃ fx ss d ss', FR K fx ss σ H ∧ Rep K H v d ∧ g d ss = some ss' ∧ ∀ σ' H', wipe σ' vs = wipe σ vs → Kp H H' → FR K fx ss' σ' H' → Q σ' H'
theorem wipe_get (σ : St) : ∀ (vs : List Nat) (i : Nat), (wipe σ vs)[i]? = if i ∈ vs then (if i < σ.length then some none else none) else σ[i]?
  | [], i => by simp [wipe]
  | v :: vs, i => by
    unfold wipe
    by_cases h : i = v
    · subst h
      rw [List.getElem?_set, if_pos rfl, wipe_length, if_pos List.mem_cons_self]
    · rw [List.getElem?_set_ne (Ne.symm h), wipe_get σ vs i]
      by_cases h2 : i ∈ vs
      · rw [if_pos h2, if_pos (List.mem_cons_of_mem _ h2)]
      · rw [if_neg h2, if_neg (by simp [h, h2])]
theorem wipe_set {σ : St} {vs : List Nat} {i : Nat} {x : Option V} (h : i ∈ vs) : wipe (σ.set i x) vs = wipe σ vs := by
  apply List.ext_getElem?
  intro j
  rw [wipe_get, wipe_get, List.length_set]
  by_cases hj : j ∈ vs
  · rw [if_pos hj, if_pos hj]
  · rw [if_neg hj, if_neg hj, List.getElem?_set_ne (fun e : i = j => hj (by rw [← e]; exact h))]
def gN (i : Nat) : GF := fun d ss => if i < ss.length then some (ss.set i (.imm d)) else none
theorem gn (i : Nat) {vs : List Nat} {x : Str} (hN : X.N.Nodup) (hv : i ∈ vs := by decide) (hi : X.N[i]? = some x := by rfl) (hx : Loc X.env.scope x := by first | exact Or.inl rfl | exact Or.inr rfl) (hf : X.fn x = true ∨ X.env.scope.names.lookup x = some .local := by first | exact .inl rfl | exact .inr rfl | assumption) :
    PG X (.Name x pos) (gD X.F (gN i) vs) := by
  refine ⟨fun pins s σ H v u Q I r q => (pg_name (pos := pos) hN hi hx hf).run pins s σ H v u Q I r ?_⟩
  obtain ⟨fx, ss, d, ss', fr, rp, e, k⟩ := q
  unfold gN at e
  split at e
  · rename_i hl
    cases e
    exact k _ _ (wipe_set hv) (Kp.refl H) (fr.imm hl rp)
  · cases e
/-- several targets, from the left -/
def gsD (K : Fg) (g : List D → SS → Option SS) (ws : List Nat) : TGs := fun vs σ H Q => ∃ fx ss ds ss', FR K fx ss σ H ∧ RepAll K H vs ds ∧ g ds ss = some ss' ∧ ∀ σ' H', wipe σ' ws = wipe σ ws → Kp H H' → FR K fx ss' σ' H' → Q σ' H'
def gNil : List D → SS → Option SS := fun ds ss => match ds with
  | [] => some ss
  | _ => none
def gCons (g : GF) (h : List D → SS → Option SS) : List D → SS → Option SS := fun ds ss => match ds with
  | d :: r => (g d ss).bind (h r)
  | [] => none
variable {ws : List Nat}
theorem gsn : PGs X [] (gsD X.F gNil ws) := by
  refine ⟨fun pins s σ H vs us Q I r q => pgs_nil.run pins s σ H vs us Q I r ?_⟩
  obtain ⟨fx, ss, ds, ss', fr, rp, e, k⟩ := q
  cases ds with
  | nil => cases rp; cases e; exact ⟨rfl, k _ _ rfl (Kp.refl H) fr⟩
  | cons d r => cases e
theorem gsc {e : Expr} {es : List Expr} {g : GF} {h : List D → SS → Option SS} (h1 : PG X e (gD X.F g ws)) (h2 : PGs X es (gsD X.F h ws)) (hs : (assignEach (e :: es) X.env).map (·.2) = assign e X.env :: (assignEach es X.env).map (·.2) := by rfl) : PGs X (e :: es) (gsD X.F (gCons g h) ws) := by
  refine ⟨fun pins s σ H vs us Q I r q => (pgs_cons h1 h2 hs).run pins s σ H vs us Q I r ?_⟩
  obtain ⟨fx, ss, ds, ss', fr, rp, e, k⟩ := q
  cases ds with
  | nil => cases e
  | cons d dr =>
    cases rp with
    | cons rd rr =>
      obtain ⟨s1, e1, e2⟩ := Option.bind_eq_some_iff.mp e
      exact ⟨_, _, rfl, fx, ss, d, s1, fr, rd, e1, fun σ1 H1 w1 k1 f1 => ⟨fx, s1, dr, ss', f1, rr.kp k1, e2, fun σ2 H2 w2 k2 f2 => k σ2 H2 (w2.trans w1) (k1.trans k2) f2⟩⟩
/-- (a, b, ..) = a tuple -/
def gTup (n : Nat) (g : List D → SS → Option SS) : GF := fun d ss => match d with
  | .tuple ds => if ds.length = n then g ds ss else none
  | _ => none
theorem gt {es : List Expr} {k n : Nat} {g : List D → SS → Option SS} (hc : X.calm = true) (h : PGs X es (gsD X.F g ws)) (hn : (assignEach es X.env).length = n := by rfl) (hst : (assignEach es X.env).findIdx? (·.1) = none := by rfl) :
    PG X (.Tuple es k pos) (gD X.F (gTup n g) ws) := by
  refine ⟨fun pins s σ H v u Q I r q => (pg_tup (pos := pos) (k := k) hc h hn hst).run pins s σ H v u Q I r ?_⟩
  obtain ⟨fx, ss, d, ss', fr, rp, e, k⟩ := q
  unfold gTup at e
  split at e
  · split at e
    · rename_i hl
      obtain ⟨a, xs, rfl, h1, r1⟩ := rp.tupv
      exact ⟨a, xs, rfl, h1, r1.len.trans hl, fx, ss, _, ss', fr, r1, e, k⟩
    · cases e
  · cases e
def sAsg (f : FE) (g : GF) : FS := fun ss => match f ss with
  | .ok d s1 => match g d s1 with
    | some s2 => .nx s2
    | none => .no
  | .no => .no
theorem asg_read {σ : St} {H : Hp} {E : Ends} {gg : GF} (q : tS X.F (sAsg f gg) E σ H) : tAsg (tD X.F f) (gD X.F gg ws) E σ H := by
  obtain ⟨fx, ss, fr, k⟩ := tS_iff.mp q
  unfold sAsg at k
  cases e : f ss with
  | no => rw [e] at k; exact k.elim
  | ok d s1 =>
    rw [e] at k
    simp only at k
    cases e2 : gg d s1 with
    | none => rw [e2] at k; exact k.elim
    | some s2 => 
      rw [e2] at k
      exact ⟨fx, ss, d, s1, fr, e, fun v H1 k1 f1 r1 => ⟨fx, s1, d, s2, f1, r1, e2, fun σ2 H2 _ k2 f2 => k σ2 H2 (k1.trans k2) f2⟩⟩
theorem sasg {tg : Expr} {gg : GF} (he : PE X a (tD X.F f)) (hg : PG X tg (gD X.F gg ws)) (hs : swapsWithSole [tg] a pos.line X.env = pure false := by rfl) (hw : swappedStores [tg] a X.env = pure none := by rfl) (h1 : (assignEach [tg] X.env).map (·.2) = [assign tg X.env] := by rfl) : PS X (.Assign [tg] a pos) (tS X.F (sAsg f gg)) :=
  (ps_asg he hg hs hw (h1 := h1)).imp fun E σ H q => asg_read q
/-- x = e, data -/
theorem sset (i : Nat) {x : Str} {pos' : Pos} (hN : X.N.Nodup) (he : PE X a (tD X.F f)) (hi : X.N[i]? = some x := by rfl) (hx : Loc X.env.scope x := by first | exact Or.inl rfl | exact Or.inr rfl) (hs : swapsWith a (some (.Name x pos')) pos.line X.env = pure false := by rfl)
    (hf : X.fn x = true ∨ X.env.scope.names.lookup x = some .local := by first | exact .inl rfl | exact .inr rfl | assumption) : PS X (.Assign [.Name x pos'] a pos) (tS X.F (sAsg f (gN i))) := by
  refine (ps_set hN hi hx he hs hf).imp fun E σ H q => ?_
  obtain ⟨fx, ss, fr, k⟩ := tS_iff.mp q
  unfold sAsg gN at k
  cases e : f ss with
  | no => rw [e] at k; exact k.elim
  | ok d s1 =>
    rw [e] at k
    simp only at k
    by_cases hl : i < s1.length
    · rw [if_pos hl] at k
      exact ⟨fx, ss, d, s1, fr, e, fun v H1 k1 f1 r1 => k _ _ k1 (f1.imm hl r1)⟩
    · rw [if_neg hl] at k; exact k.elim
/-- x = e, an object of one's own -/
def sOwn (f : FN) (i : Nat) : FS := fun ss => match f ss with
  | .ok o s1 => if i < s1.length then .nx (s1.set i (.own o)) else .no
  | .no => .no
theorem own_read {σ : St} {H : Hp} {E : Ends} {i : Nat} (q : tS X.F (sOwn fn i) E σ H) : tAsg (tN X.F fn) (gName i) E σ H := by
  obtain ⟨fx, ss, fr, k⟩ := tS_iff.mp q
  unfold sOwn at k
  cases e : fn ss with
  | no => rw [e] at k; exact k.elim
  | ok d s1 =>
    rw [e] at k
    simp only at k
    by_cases hl : i < s1.length
    · rw [if_pos hl] at k
      exact ⟨fx, ss, d, s1, fr, e, fun p H1 k1 f1 r1 n1 => k _ _ k1 (f1.own hl r1 n1)⟩
    · rw [if_neg hl] at k; exact k.elim
theorem sown (i : Nat) {x : Str} {pos' : Pos} (hN : X.N.Nodup) (he : PE X a (tN X.F fn)) (hi : X.N[i]? = some x := by rfl) (hx : Loc X.env.scope x := by first | exact Or.inl rfl | exact Or.inr rfl) (hs : swapsWith a (some (.Name x pos')) pos.line X.env = pure false := by rfl)
    (hf : X.fn x = true ∨ X.env.scope.names.lookup x = some .local := by first | exact .inl rfl | exact .inr rfl | assumption) : PS X (.Assign [.Name x pos'] a pos) (tS X.F (sOwn fn i)) :=
  (ps_set hN hi hx he hs hf).imp fun E σ H q => own_read q
/-- a store of a new object, by any rule, then locked -/
theorem sfz {i : Nat} (hN : ∀ {σ : St} {s : Shared} {pins : List (Addr × Obj)} {H : Hp}, Inv X pins σ H s → σ.length = X.N.length) (h : PS X st (tAsg (tN X.F fn) (gName i))) : PS X st (tS X.F (sAsg (eFz fn) (gN i))) := by
  refine ⟨fun pins s σ H E I q => ?_⟩
  obtain ⟨fx, ss, fr, k⟩ := tS_iff.mp q
  unfold sAsg gN eFz at k
  cases e : fn ss with
  | no => rw [e] at k; exact k.elim
  | ok o s1 =>
    rw [e] at k
    simp only [Res.bind] at k
    by_cases hl : i < s1.length
    · rw [if_pos hl] at k
      refine thn (h.run pins s σ H { nx := fun σ' H' => ∃ p, σ' = σ.set i (some (.ref p)) ∧ Kp H H' ∧ FR X.F fx s1 σ H' ∧ OwnAt X.F H' p o ∧ NewAt fx s1 σ p, rt := fun _ _ => False, bk := fun _ _ => False, ct := fun _ _ => False } I
        ⟨fx, ss, o, s1, fr, e, fun p H' k1 f1 r1 n1 => ⟨p, rfl, k1, f1, r1, n1⟩⟩) fun fl s2 q => ?_
      cases fl with
      | next =>
        obtain ⟨σ', H', I2, p, rfl, k1, f1, ow, nw⟩ := q
        obtain ⟨w, hw, lw, mw, rp⟩ := ow.loose
        obtain ⟨od, I3⟩ := I2.lock hw mw
        exact ⟨_, _, I3, k _ _ (k1.trans (Kp.upd hw lw)) ((f1.lock nw hw lw).imm hl (rp od))⟩
      | ret u => obtain ⟨_, _, _, _, _, q⟩ := q; exact q.elim
      | brk => obtain ⟨_, _, _, q⟩ := q; exact q.elim
      | cont => obtain ⟨_, _, _, q⟩ := q; exact q.elim
    · rw [if_neg hl] at k; exact k.elim
/-- x += n, ints -/
def sAug (i : Nat) (f : FE) : FS := fun ss => match ss[i]? with
  | some (.imm (.int n)) => match f ss with
    | .ok (.int m) s1 => if i < s1.length then .nx (s1.set i (.imm (.int (n + m)))) else .no
    | _ => .no
  | _ => .no
theorem saug (i : Nat) {x : Str} {pos' : Pos} (hN : X.N.Nodup) (he : PE X a (tD X.F f)) (hi : X.N[i]? = some x := by rfl) (hx : Loc X.env.scope x := by first | exact Or.inl rfl | exact Or.inr rfl)
    (hf : X.fn x = true ∨ X.env.scope.names.lookup x = some .local := by first | exact .inl rfl | exact .inr rfl | assumption) : PS X (.AugAssign (.Name x pos') .Add a pos) (tS X.F (sAug i f)) := by
  refine (ps_aug hN hi hx he ip_add hf).imp fun E σ H q => ?_
  obtain ⟨fx, ss, fr, k⟩ := tS_iff.mp q
  unfold sAug at k
  split at k
  · rename_i n e1
    obtain ⟨v, h1, h2⟩ := fr.slot i _ e1
    obtain rfl := h2.intv
    split at k
    · rename_i m s1 e2
      split at k
      · rename_i hl
        exact ⟨_, h1, fx, ss, _, s1, fr, e2, fun w H1 k1 f1 r1 => ⟨n, m, rfl, r1.intv, k _ _ k1 (f1.imm hl (.int _))⟩⟩
      · exact k.elim
    · exact k.elim
  · exact k.elim
/-! ### loops -/
def sWh (c : FB) (b : FS) : Nat → FS
  | 0 => fun _ => .no
  | n + 1 => fun ss => match c ss with
    | .no => .no
    | .ok false s1 => .nx s1
    | .ok true s1 => match b s1 with
      | .nx s2 => sWh c b n s2
      | .ct s2 => sWh c b n s2
      | .bk s2 => .nx s2
      | .rt r s2 => .rt r s2
      | .no => .no
theorem swh (n : Nat) {body : List Stmt} (hp : PassesOwn (model X.prog X.w) X.A X.env X.xe) (hc : PT X c (tT X.F fc)) (hb : PSs X body (tS X.F fb)) : PS X (.While c body [] pos) (tS X.F (sWh fc fb n)) := by
  refine (ps_while hp hc hb).imp fun E σ H q => ?_
  obtain ⟨fx, ss, fr, k⟩ := tS_iff.mp q
  refine ⟨fun m σ' H' => ∃ ss', FR X.F fx ss' σ' H' ∧ Post X.F fx E H' (sWh fc fb m ss'), ⟨n, ss, fr, k⟩, fun m σ' H' ⟨s0, f0, k0⟩ => ?_⟩
  cases m with
  | zero => exact k0.elim
  | succ m =>
    unfold sWh at k0
    cases e : fc s0 with
    | no => rw [e] at k0; exact k0.elim
    | ok x s1 =>
      rw [e] at k0
      refine ⟨fx, s0, x, s1, f0, e, fun H1 k1 f1 => ?_⟩
      cases x with
      | false => exact iteF (k0 σ' H1 k1 f1)
      | true =>
        refine iteT ⟨fun σ2 H2 => ∃ ss', FR X.F fx ss' σ2 H2 ∧ Post X.F fx E H2 (sWh fc fb m ss'), fun σ2 H2 q => ⟨m, Nat.lt_succ_self m, q⟩, tS_iff.mpr ⟨fx, s1, f1, ?_⟩⟩
        simp only at k0
        cases e2 : fb s1 with
        | no => rw [e2] at k0; exact k0.elim
        | nx s2 => rw [e2] at k0; exact fun σ2 H2 k2 f2 => ⟨s2, f2, k0.kp (k1.trans k2)⟩
        | ct s2 => rw [e2] at k0; exact fun σ2 H2 k2 f2 => ⟨s2, f2, k0.kp (k1.trans k2)⟩
        | bk s2 => rw [e2] at k0; exact fun σ2 H2 k2 f2 => k0 σ2 H2 (k1.trans k2) f2
        | rt r s2 => rw [e2] at k0; exact fun v σ2 H2 k2 f2 => k0 v σ2 H2 (k1.trans k2) f2
/-- the iterator yields the data, whatever happens -/
def Walk (K : Fg) (J : It) (ds : List D) (H : Hp) : Prop :=
  ∀ i H', Kp H H' → (∀ d, ds[i]? = some d → J.go i H' ∧ ∀ x H2, J.yld i H' x H2 → Same H' H2 ∧ Rep K H2 x d) ∧ (ds.length ≤ i → J.stop i H')
def iD (K : Fg) (f : FL) : TI := fun σ H R => ∃ fx ss ds ss', FR K fx ss σ H ∧ f ss = .ok ds ss' ∧ ∀ J H1, Kp H H1 → FR K fx ss' σ H1 → Walk K J ds H1 → R J H1
def loopF (g : GF) (b : FS) : List D → SS → Out
  | [], ss => .nx ss
  | d :: r, ss => match g d ss with
    | none => .no
    | some s1 => match b s1 with
      | .nx s2 => loopF g b r s2
      | .ct s2 => loopF g b r s2
      | .bk s2 => .nx s2
      | .rt r s2 => .rt r s2
      | .no => .no
def sFor (src : FL) (g : GF) (b : FS) : FS := fun ss => match src ss with
  | .ok ds s1 => loopF g b ds s1
  | .no => .no
theorem sfor {tg iter : Expr} {body : List Stmt} {fl : FL} {gg : GF} (hp : PassesOwn (model X.prog X.w) X.A X.env X.xe) (hc : X.calm = true) (hi : PI X tg iter (iD X.F fl)) (hg : PG X tg (gD X.F gg ws)) (hb : PSs X body (tS X.F fb)) (hs : ∀ x, foldedSetIterable iter X.env x = pure x := by intro _; rfl) :
    PS X (.For tg iter body [] pos) (tS X.F (sFor fl gg fb)) := by
  refine (ps_for hp hc hi hg hb hs).imp fun E σ H q => ?_
  obtain ⟨fx, ss, fr, k⟩ := tS_iff.mp q
  unfold sFor at k
  cases e : fl ss with
  | no => rw [e] at k; exact k.elim
  | ok ds s1 =>
    rw [e] at k
    simp only at k
    refine ⟨fx, ss, ds, s1, fr, e, fun J H1 k1 f1 w => ?_⟩
    refine ⟨fun i m σ' H' => m = ds.length - i ∧ i ≤ ds.length ∧ Kp H1 H' ∧ ∃ ss', FR X.F fx ss' σ' H' ∧ Post X.F fx E H' (loopF gg fb (ds.drop i) ss'), ⟨ds.length, by omega, Nat.zero_le _, Kp.refl _, s1, f1, k.kp k1⟩, fun i m σ' H' ⟨em, hle, k2, s2, f2, q2⟩ => ?_⟩
    have wi := w i H' k2
    by_cases hlt : i < ds.length
    · have ed : ds.drop i = ds[i] :: ds.drop (i + 1) := List.drop_eq_getElem_cons hlt
      rw [ed] at q2
      unfold loopF at q2
      obtain ⟨go, yl⟩ := wi.1 ds[i] (List.getElem?_eq_getElem hlt)
      refine .inr ⟨go, fun σ3 H3 => Kp H1 H3 ∧ ∃ ss', FR X.F fx ss' σ3 H3 ∧ Post X.F fx E H3 (loopF gg fb (ds.drop (i + 1)) ss'), fun σ3 H3 ⟨k3, q3⟩ => ⟨ds.length - (i + 1), by omega, rfl, hlt, k3, q3⟩, fun x H3 hy => ?_⟩
      obtain ⟨sm, rp⟩ := yl x H3 hy
      have k23 := k2.trans (.same sm)
      cases e2 : gg ds[i] s2 with
      | none => rw [e2] at q2; exact q2.elim
      | some s3 =>
        rw [e2] at q2
        simp only at q2
        refine ⟨fx, s2, ds[i], s3, f2.same sm, rp, e2, fun σ4 H4 _ k4 f4 => tS_iff.mpr ⟨fx, s3, f4, ?_⟩⟩
        have k24 : Kp H' H4 := (Kp.same sm).trans k4
        cases e3 : fb s3 with
        | no => rw [e3] at q2; exact q2.elim
        | nx s4 => rw [e3] at q2; exact fun σ5 H5 k5 f5 => ⟨(k2.trans k24).trans k5, s4, f5, q2.kp (k24.trans k5)⟩
        | ct s4 => rw [e3] at q2; exact fun σ5 H5 k5 f5 => ⟨(k2.trans k24).trans k5, s4, f5, q2.kp (k24.trans k5)⟩
        | bk s4 => rw [e3] at q2; exact fun σ5 H5 k5 f5 => q2 σ5 H5 (k24.trans k5) f5
        | rt r s4 => rw [e3] at q2; exact fun v σ5 H5 k5 f5 => q2 v σ5 H5 (k24.trans k5) f5
    · have ed : ds.drop i = [] := List.drop_eq_nil_of_le (by omega)
      rw [ed] at q2
      exact .inl ⟨wi.2 (by omega), q2 σ' H' (Kp.refl _) f2⟩
end
end Dt

/-! Dt5: a def's promise by data, its call. -/
namespace Dt
open PySem PySem.Spec L2
open PyProof.Rows hiding St

/-- a def by data: the arguments as they come in; what it hands back, the arguments behind it -/
abbrev FnS := List Sl → Option (Sl × List Sl)
def callF (n : Nat) (b : FS) : FnS := fun args => match b (args ++ List.replicate (n - args.length) .un) with
  | .rt r ss => some (r, ss.take args.length)
  | .nx ss => some (.imm .none, ss.take args.length)
  | _ => none
def ArgOk (K : Fg) (H : Hp) (v : V) : Sl → Prop
  | .imm d => Rep K H v d
  | .bor o => ∃ p, v = .ref p ∧ OwnAt K H p o
  | _ => False
structure ArgsOk (K : Fg) (H : Hp) (args : List Sl) (vs : List V) : Prop where
  len : vs.length = args.length
  each : ∀ (i : Nat) (sl : Sl) (v : V), args[i]? = some sl → vs[i]? = some v → ArgOk K H v sl
  dis : ∀ (i j : Nat) (o u : O) (v : V), args[i]? = some (.bor o) → args[j]? = some (.bor u) → vs[i]? = some v → vs[j]? = some v → i = j
def RetC (K : Fg) (H H' : Hp) (v : V) : Sl → Prop
  | .imm d => Rep K H' v d
  | .own o => ∃ p, v = .ref p ∧ H p = none ∧ OwnAt K H' p o
  | _ => False
structure PostC (K : Fg) (H H' : Hp) (vs : List V) (args args' : List Sl) (r : Sl) (v : V) : Prop where
  kp : Kp H H'
  rest : ∀ (a : Addr) (o : HO), H a = some o → (∀ (i : Nat) (u : O), args[i]? = some (.bor u) → vs[i]? ≠ some (.ref a)) → H' a = some o
  there : ∀ (a : Addr), H' a = none → H a = none
  bor : ∀ (i : Nat) (o u : O) (p : Addr), args[i]? = some (.bor o) → args'[i]? = some (.bor u) → vs[i]? = some (.ref p) → OwnAt K H' p u
  ret : RetC K H H' v r
def spOf (K : Fg) (F : FnS) (m : Nat) : Sp := fun vs H Q _ => vs.length = m ∧ ∃ args r args', ArgsOk K H args vs ∧ F args = some (r, args') ∧ ∀ v H', PostC K H H' vs args args' r v → Q v H'

theorem start_get {N : List Str} {vs : List V} {i : Nat} {v : V} (h : vs[i]? = some v) : (start N vs)[i]? = some (some v) := by
  have hi : i < vs.length := (List.getElem?_eq_some_iff.mp h).1
  unfold L2.start
  rw [List.getElem?_append_left (by simpa using hi), List.getElem?_map, h]
  rfl
/-- the frame at the entry -/
def fxOf (H : Hp) (args : List Sl) (vs : List V) : Fx := ⟨H, fun i => match args[i]?, vs[i]? with
  | some (.bor _), some (.ref p) => some p
  | _, _ => none⟩
theorem fx_some {H : Hp} {args : List Sl} {vs : List V} {i : Nat} {p : Addr} (h : (fxOf H args vs).P i = some p) : ∃ o, args[i]? = some (.bor o) ∧ vs[i]? = some (.ref p) := by
  unfold fxOf at h
  simp only at h
  split at h
  · cases h
    exact ⟨_, by assumption, by assumption⟩
  · cases h
theorem fx_of {H : Hp} {args : List Sl} {vs : List V} {i : Nat} {p : Addr} {o : O} (h1 : args[i]? = some (.bor o)) (h2 : vs[i]? = some (.ref p)) : (fxOf H args vs).P i = some p := by
  unfold fxOf
  simp only [h1, h2]
theorem fr_start {K : Fg} {H : Hp} {args : List Sl} {vs : List V} {N : List Str} (ok : ArgsOk K H args vs) (hN : vs.length ≤ N.length) : FR K (fxOf H args vs) (args ++ List.replicate (N.length - args.length) .un) (start N vs) H := by
  have len := ok.len
  have cases_ : ∀ (i : Nat) (sl : Sl), (args ++ List.replicate (N.length - args.length) Sl.un)[i]? = some sl → (∃ v, args[i]? = some sl ∧ vs[i]? = some v ∧ (start N vs)[i]? = some (some v)) ∨ sl = .un := fun i sl e => by
    by_cases hi : i < args.length
    · rw [List.getElem?_append_left hi] at e
      have hv : vs[i]? = some (vs[i]'(by omega)) := List.getElem?_eq_getElem (by omega)
      exact .inl ⟨_, e, hv, start_get hv⟩
    · rw [List.getElem?_append_right (by omega), List.getElem?_replicate] at e
      split at e
      · exact .inr (Option.some.inj e).symm
      · cases e
  refine ⟨?_, Kp.refl H, fun a o e _ => e, fun a e => e, fun i sl e => ?_, fun i j p si sj oi oj ei ej eoi eoj hi hj => ?_⟩
  · unfold L2.start
    rw [List.length_append, List.length_append, List.length_map, List.length_replicate, List.length_replicate, len]
  · rcases cases_ i sl e with ⟨v, h1, h2, h3⟩ | rfl
    · have q := ok.each i sl v h1 h2
      cases sl with
      | un => trivial
      | imm d => exact ⟨v, h3, q⟩
      | own o => exact q.elim
      | bor o =>
        obtain ⟨p, rfl, ow⟩ := q
        exact ⟨p, h3, ow, fx_of h1 h2⟩
    · trivial
  · rcases cases_ i si ei with ⟨v, h1, h2, h3⟩ | rfl
    · rcases cases_ j sj ej with ⟨w, g1, g2, g3⟩ | rfl
      · have q1 := ok.each i si v h1 h2
        have q2 := ok.each j sj w g1 g2
        have ei : v = .ref p := by rw [hi] at h3; cases h3; rfl
        have ej : w = .ref p := by rw [hj] at g3; cases g3; rfl
        subst ei
        subst ej
        cases si with
        | bor o => cases sj with
          | bor u => exact ok.dis i j o u _ h1 g1 h2 g2
          | un => cases eoj
          | imm d => cases eoj
          | own u => exact q2.elim
        | un => cases eoi
        | imm d => cases eoi
        | own u => exact q1.elim
      · cases eoj
    · cases eoi
/-- THE RULE for a def -/
theorem fn_ok {P : Program} {w : World} {K : Fg} {mg : Str → Option Value} {base : Heap} {x qual : Str} {st : Stmt} {f : Addr} {fd : FuncData} {N ps : List Str} {k : Nat} {b : FS} (F : Fun K x qual st f fd) (S : FnScope N ps (defScope st))
    (hbody : ∀ (cdv : Value) (A : Around) (outer : List Env) (s : Shared) (H : Hp) (E : XK), Room k (A.deeper (envOfC qual (defScope st) s.heap.objs.size f cdv)) →
      PSs (cxOf CX0 P w K mg base N qual (defScope st) f cdv A outer s H E).nox (defBody st) (tS K b)) :
    FnOk P w K mg base CX0 (k + 1) f fd ps (spOf K (callF N.length b) ps.length) := by
  have hpl : ps.length ≤ N.length := by have := congrArg List.length S.pre; rw [List.length_take] at this; omega
  refine F.ok S (fun vs H Q E h => h.1) fun cdv A outer s H vs Q E hr h => ?_
  obtain ⟨hl, args, r, args', ok, e, q⟩ := h
  refine ⟨_, hbody cdv A outer s H E hr, tS_iff.mpr ⟨fxOf H args vs, _, fr_start (N := N) ok (by omega), ?_⟩⟩
  have fin : ∀ (ss : SS) (v : V) (σ' : St) (H' : Hp), Kp H H' → FR K (fxOf H args vs) ss σ' H' → RetR K (fxOf H args vs) ss σ' H' v r → args' = ss.take args.length → Q v H' := fun ss v σ' H' k1 f1 rr ea => by
    refine q v H' ⟨k1, fun a o ea hn => f1.rest a o ea fun i z => ?_, f1.there, fun i o u p h1 h2 h3 => ?_, ?_⟩
    · obtain ⟨o', z1, z2⟩ := fx_some z
      exact hn i o' z1 z2
    · subst ea
      rw [List.getElem?_take] at h2
      split at h2
      · obtain ⟨p', _, ow, hP⟩ := f1.slot i _ h2
        rw [fx_of h1 h3] at hP
        cases hP
        exact ow
      · cases h2
    · cases r with
      | imm d => exact rr
      | own o => obtain ⟨p, e1, e2, e3⟩ := rr; exact ⟨p, e1, e3.1, e2⟩
      | un => exact rr.elim
      | bor o => exact rr.elim
  unfold callF at e
  cases eb : b (args ++ List.replicate (N.length - args.length) .un) with
  | no => rw [eb] at e; cases e
  | bk ss => rw [eb] at e; cases e
  | ct ss => rw [eb] at e; cases e
  | rt r' ss =>
    rw [eb] at e
    cases e
    exact fun v σ' H' k1 f1 rr => fin ss v σ' H' k1 f1 rr rfl
  | nx ss =>
    rw [eb] at e
    cases e
    exact fun σ' H' k1 f1 => fin ss .non σ' H' k1 f1 .non rfl

/-! ### the call -/
def resolve (ss : SS) : List Ar → Option (List Sl)
  | [] => some []
  | .d d :: r => (resolve ss r).map fun t => .imm d :: t
  | .ref i :: r => match (ss[i]?).bind Sl.obj with
    | some o => (resolve ss r).map fun t => .bor o :: t
    | none => none
def refs : List Ar → List Nat
  | [] => []
  | .d _ :: r => refs r
  | .ref i :: r => i :: refs r
def putB : List Ar → List Sl → SS → Option SS
  | [], [], ss => some ss
  | .d _ :: r, _ :: t, ss => putB r t ss
  | .ref i :: r, .bor o :: t, ss => match ss[i]? with
    | some s => putB r t (ss.set i (s.put o))
    | none => none
  | _, _, _ => none
def callAt (F : FnS) (as : List Ar) (ss : SS) : Option (Sl × SS) := if (refs as).Nodup then (resolve ss as).bind fun args => (F args).bind fun p => (putB as p.2 ss).map fun s2 => (p.1, s2) else none
theorem mem_refs : ∀ {as : List Ar} {k j : Nat}, as[k]? = some (.ref j) → j ∈ refs as
  | .d _ :: r, 0, j, h => by cases h
  | .ref i :: r, 0, j, h => by cases h; exact List.mem_cons_self
  | .d _ :: r, k + 1, j, h => by
    unfold refs
    exact mem_refs (as := r) (k := k) h
  | .ref i :: r, k + 1, j, h => List.mem_cons_of_mem _ (mem_refs (as := r) (k := k) h)
  | [], k, j, h => by cases h
theorem refs_inj : ∀ {as : List Ar} {k l j : Nat}, (refs as).Nodup → as[k]? = some (.ref j) → as[l]? = some (.ref j) → k = l
  | [], _, _, _, _, h, _ => by cases h
  | .d _ :: r, 0, _, _, _, h, _ => by cases h
  | .d _ :: r, k + 1, 0, _, _, _, h => by cases h
  | .d _ :: r, k + 1, l + 1, j, n, h1, h2 => congrArg (· + 1) (refs_inj (as := r) (by unfold refs at n; exact n) h1 h2)
  | .ref i :: r, 0, 0, _, _, _, _ => rfl
  | .ref i :: r, 0, l + 1, j, n, h1, h2 => by
    cases h1
    exact absurd (mem_refs (as := r) h2) (List.nodup_cons.mp n).1
  | .ref i :: r, k + 1, 0, j, n, h1, h2 => by
    cases h2
    exact absurd (mem_refs (as := r) h1) (List.nodup_cons.mp n).1
  | .ref i :: r, k + 1, l + 1, j, n, h1, h2 => congrArg (· + 1) (refs_inj (as := r) (List.nodup_cons.mp n).2 h1 h2)
theorem resolve_len : ∀ {as : List Ar} {ss : SS} {args : List Sl}, resolve ss as = some args → args.length = as.length
  | [], _, _, h => by cases h; rfl
  | .d _ :: r, ss, args, h => by
    obtain ⟨t, h1, rfl⟩ := Option.map_eq_some_iff.mp h
    rw [List.length_cons, List.length_cons, resolve_len h1]
  | .ref i :: r, ss, args, h => by
    unfold resolve at h
    split at h
    · obtain ⟨t, h1, rfl⟩ := Option.map_eq_some_iff.mp h
      rw [List.length_cons, List.length_cons, resolve_len h1]
    · cases h
theorem resolve_get : ∀ {as : List Ar} {ss : SS} {args : List Sl} {k : Nat} {sl : Sl}, resolve ss as = some args → args[k]? = some sl → (∃ d, as[k]? = some (.d d) ∧ sl = .imm d) ∨ ∃ i s o, as[k]? = some (.ref i) ∧ ss[i]? = some s ∧ s.obj = some o ∧ sl = .bor o
  | [], _, _, k, sl, h, e => by cases h; cases e
  | .d d :: r, ss, args, k, sl, h, e => by
    obtain ⟨t, h1, rfl⟩ := Option.map_eq_some_iff.mp h
    cases k with
    | zero => cases e; exact .inl ⟨d, rfl, rfl⟩
    | succ k => exact resolve_get (as := r) h1 e
  | .ref i :: r, ss, args, k, sl, h, e => by
    unfold resolve at h
    split at h
    · rename_i o ho
      obtain ⟨s, hs, hso⟩ := Option.bind_eq_some_iff.mp ho
      obtain ⟨t, h1, rfl⟩ := Option.map_eq_some_iff.mp h
      cases k with
      | zero => cases e; exact .inr ⟨i, s, o, rfl, hs, hso, rfl⟩
      | succ k => exact resolve_get (as := r) h1 e
    · cases h
/-- place by place -/
theorem putB_get : ∀ {as : List Ar} {t : List Sl} {ss s2 : SS}, putB as t ss = some s2 → (refs as).Nodup → s2.length = ss.length ∧ ∀ j : Nat, (∃ (k : Nat) (o : O) (s : Sl), as[k]? = some (.ref j) ∧ t[k]? = some (.bor o) ∧ ss[j]? = some s ∧ s2[j]? = some (s.put o)) ∨ ((∀ k : Nat, as[k]? ≠ some (Ar.ref j)) ∧ s2[j]? = ss[j]?)
  | [], [], ss, s2, h, _ => by cases h; exact ⟨rfl, fun j => .inr ⟨fun k z => (by cases z), rfl⟩⟩
  | .d d :: r, x :: t, ss, s2, h, n => by
    obtain ⟨h1, h2⟩ := putB_get (as := r) (t := t) h (by unfold refs at n; exact n)
    refine ⟨h1, fun j => ?_⟩
    rcases h2 j with ⟨k, o, s, a, b, c⟩ | ⟨a, b⟩
    · exact .inl ⟨k + 1, o, s, a, b, c⟩
    · refine .inr ⟨fun k z => ?_, b⟩
      cases k with
      | zero => cases z
      | succ k => exact a k z
  | .ref i :: r, .bor o :: t, ss, s2, h, n => by
    unfold putB at h
    split at h
    · rename_i s hs
      have n2 := List.nodup_cons.mp n
      obtain ⟨h1, h2⟩ := putB_get (as := r) (t := t) h n2.2
      refine ⟨h1.trans (by rw [List.length_set]), fun j => ?_⟩
      by_cases hj : j = i
      · subst hj
        rcases h2 j with ⟨k, o', s', a, b, c⟩ | ⟨a, b⟩
        · exact absurd (mem_refs a) n2.1
        · refine .inl ⟨0, o, s, rfl, rfl, hs, ?_⟩
          rw [b, List.getElem?_set_self (List.getElem?_eq_some_iff.mp hs).1]
      · rcases h2 j with ⟨k, o', s', a, b, c, d⟩ | ⟨a, b⟩
        · rw [List.getElem?_set_ne (Ne.symm hj)] at c
          exact .inl ⟨k + 1, o', s', a, b, c, d⟩
        · rw [List.getElem?_set_ne (Ne.symm hj)] at b
          refine .inr ⟨fun k z => ?_, b⟩
          cases k with
          | zero => cases z; exact hj rfl
          | succ k => exact a k z
    · cases h
  | .ref i :: r, .un :: t, ss, s2, h, n => by cases h
  | .ref i :: r, .imm _ :: t, ss, s2, h, n => by cases h
  | .ref i :: r, .own _ :: t, ss, s2, h, n => by cases h
  | [], x :: t, ss, s2, h, n => by cases h
  | .d _ :: r, [], ss, s2, h, n => by cases h
  | .ref _ :: r, [], ss, s2, h, n => by cases h
section
variable {K : Fg} {fx : Fx} {ss s2 : SS} {σ : St} {H H' : Hp}
theorem argsR_get {as : List Ar} {vs : List V} (h : ArgsR K H σ vs as) : vs.length = as.length ∧ ∀ (k : Nat) (v : V) (a : Ar), vs[k]? = some v → as[k]? = some a → ArgR K H σ v a := by
  refine ⟨Paired.length h, ?_⟩
  induction h with
  | nil => intro k v a e; cases e
  | cons r t ih =>
    intro k v a e1 e2
    cases k with
    | zero => cases e1; cases e2; exact r
    | succ k => exact ih k v a e1 e2
theorem args_ok {as : List Ar} {vs : List V} {args : List Sl} (f : FR K fx ss σ H) (r : ArgsR K H σ vs as) (n : (refs as).Nodup) (e : resolve ss as = some args) : ArgsOk K H args vs := by
  obtain ⟨hl, hg⟩ := argsR_get r
  refine ⟨by rw [hl, resolve_len e], fun i sl v h1 h2 => ?_, fun i j o u v h1 h2 h3 h4 => ?_⟩
  · rcases resolve_get e h1 with ⟨d, a, rfl⟩ | ⟨k, s, o, a, b, c, rfl⟩
    · cases hg i v _ h2 a with
      | d rp => exact rp
    · cases hg i v _ h2 a with
      | ref hs =>
        obtain ⟨p, z, ow, _⟩ := (f.slot k s b).obj c
        rw [hs] at z
        cases z
        exact ⟨p, rfl, ow⟩
  · rcases resolve_get e h1 with ⟨d, a, z⟩ | ⟨k, s, o1, a, b, c, z⟩
    · cases z
    · rcases resolve_get e h2 with ⟨d, a2, z2⟩ | ⟨k2, s2, o2, a2, b2, c2, z2⟩
      · cases z2
      · cases hg i v _ h3 a with
        | ref hs =>
          cases hg j v _ h4 a2 with
          | ref hs2 =>
            obtain ⟨p, zz, _⟩ := (f.slot k s b).obj c
            rw [hs] at zz
            cases zz
            have ek : k = k2 := f.dis k k2 p s s2 o1 o2 b b2 c c2 hs hs2
            subst ek
            exact refs_inj n a a2
theorem FR.called {as : List Ar} {vs : List V} {args args' : List Sl} {r : Sl} {v : V} (f : FR K fx ss σ H) (ra : ArgsR K H σ vs as) (n : (refs as).Nodup) (e : resolve ss as = some args) (pc : PostC K H H' vs args args' r v) (pb : putB as args' ss = some s2) : FR K fx s2 σ H' := by
  obtain ⟨hl, hg⟩ := argsR_get ra
  obtain ⟨l2, g2⟩ := putB_get pb n
  have alen := resolve_len e
  -- a slot's object that isn't lent stays
  have stays : ∀ (j : Nat) (p : Addr) (s : Sl) (o : O), ss[j]? = some s → s.obj = some o → σ[j]? = some (some (.ref p)) → (∀ k : Nat, as[k]? ≠ some (.ref j)) → H' p = H p := fun j p s o e1 e2 e3 hn => by
    obtain ⟨u, hu, _⟩ := f.root e1 e2 e3
    rw [hu]
    refine pc.rest p u hu fun i u' h1 h2 => ?_
    rcases resolve_get e h1 with ⟨d, a, z⟩ | ⟨k, s', o', a, b, c, z⟩
    · cases z
    · cases hg i _ _ h2 a with
      | ref hs =>
        have ek : k = j := f.dis k j p s' s o' o b e1 c e2 hs e3
        subst ek
        exact hn i a
  have lent : ∀ (k j : Nat) (o : O) (s : Sl) (p : Addr) (o' : O), as[k]? = some (.ref j) → args'[k]? = some (.bor o) → ss[j]? = some s → s.obj = some o' → σ[j]? = some (some (.ref p)) → OwnAt K H' p o := fun k j o s p o' h1 h2 h3 h4 h5 => by
    have hk : k < as.length := (List.getElem?_eq_some_iff.mp h1).1
    have hv : vs[k]? = some (vs[k]'(by omega)) := List.getElem?_eq_getElem (by omega)
    have ha : args[k]? = some (args[k]'(by omega)) := List.getElem?_eq_getElem (by omega)
    rcases resolve_get e ha with ⟨d, a, z⟩ | ⟨i, s', o2, a, b, c, z⟩
    · rw [h1] at a; cases a
    · rw [h1] at a
      cases a
      rw [z] at ha
      have q := hg k _ _ hv h1
      cases q with
      | ref hs =>
        rw [h5] at hs
        have hvp : vs[k]? = some (.ref p) := by rw [hv]; exact (Option.some.inj hs).symm
        exact pc.bor k o2 o p ha h2 hvp
  have obj_of : ∀ (j : Nat) (sl : Sl) (o : O), s2[j]? = some sl → sl.obj = some o → ∃ s o', ss[j]? = some s ∧ s.obj = some o' := fun j sl o e1 e2 => by
    rcases g2 j with ⟨k, o1, s, a, b, c, d⟩ | ⟨_, b⟩
    · rw [d] at e1
      cases e1
      cases s with
      | un => cases e2
      | imm x => cases e2
      | own x => exact ⟨_, _, c, rfl⟩
      | bor x => exact ⟨_, _, c, rfl⟩
    · rw [b] at e1
      exact ⟨_, _, e1, e2⟩
  refine ⟨by rw [f.len, l2], f.kp.trans pc.kp, fun a o ea hP => ?_, fun a ea => f.there a (pc.there a ea), fun j sl ej => ?_, fun i j p si sj oi oj ei ej eoi eoj hi hj => ?_⟩
  · refine pc.rest a o (f.rest a o ea hP) fun i u h1 h2 => ?_
    rcases resolve_get e h1 with ⟨d, x, z⟩ | ⟨k, s, o2, x, b, c, z⟩
    · cases z
    · cases hg i _ _ h2 x with
      | ref hs =>
        obtain ⟨p, z1, _, z3⟩ := (f.slot k s b).obj c
        rw [hs] at z1
        cases z1
        rcases z3 with z3 | z3
        · rw [ea] at z3; cases z3
        · exact hP k z3
  · rcases g2 j with ⟨k, o1, s, a, b, c, d⟩ | ⟨hn, b⟩
    · rw [d] at ej
      cases ej
      have q := f.slot j s c
      cases s with
      | un => exact q
      | imm x => obtain ⟨v, q1, q2⟩ := q; exact ⟨v, q1, q2.kp pc.kp⟩
      | own x => obtain ⟨p, q1, q2, q3⟩ := q; exact ⟨p, q1, lent k j o1 _ p x a b c rfl q1, q3⟩
      | bor x => obtain ⟨p, q1, q2, q3⟩ := q; exact ⟨p, q1, lent k j o1 _ p x a b c rfl q1, q3⟩
    · rw [b] at ej
      have q := f.slot j sl ej
      cases sl with
      | un => exact q
      | imm x => obtain ⟨v, q1, q2⟩ := q; exact ⟨v, q1, q2.kp pc.kp⟩
      | own x => obtain ⟨p, q1, q2, q3⟩ := q; exact ⟨p, q1, q2.kp pc.kp (stays j p _ x ej rfl q1 hn), q3⟩
      | bor x => obtain ⟨p, q1, q2, q3⟩ := q; exact ⟨p, q1, q2.kp pc.kp (stays j p _ x ej rfl q1 hn), q3⟩
  · obtain ⟨s, o, a, b⟩ := obj_of i si oi ei eoi
    obtain ⟨s', o', a', b'⟩ := obj_of j sj oj ej eoj
    exact f.dis i j p s s' o o' a a' b b' hi hj
theorem putB_obj {as : List Ar} {t : List Sl} (pb : putB as t ss = some s2) (n : (refs as).Nodup) {j : Nat} {sl : Sl} {o : O} (e1 : s2[j]? = some sl) (e2 : sl.obj = some o) : ∃ s o', ss[j]? = some s ∧ s.obj = some o' := by
  rcases (putB_get pb n).2 j with ⟨k, o1, s, a, b, c, d⟩ | ⟨_, b⟩
  · rw [d] at e1
    cases e1
    cases s with
    | un => cases e2
    | imm x => cases e2
    | own x => exact ⟨_, _, c, rfl⟩
    | bor x => exact ⟨_, _, c, rfl⟩
  · rw [b] at e1
    exact ⟨_, _, e1, e2⟩
end
def LenA (fa : SS → Res (List Ar)) (n : Nat) : Prop := ∀ (ss : SS) (as : List Ar) (s1 : SS), fa ss = .ok as s1 → as.length = n
/-- arguments, one behind the other -/
def aNil : SS → Res (List Ar) := fun ss => .ok [] ss
def aCons (a : FE) (b : SS → Res (List Ar)) : SS → Res (List Ar) := fun ss => (a ss).bind fun x s1 => (b s1).bind fun y s2 => .ok (.d x :: y) s2
def aRef (i : Nat) (b : SS → Res (List Ar)) : SS → Res (List Ar) := fun ss => match (ss[i]?).bind Sl.obj with
  | some _ => (b ss).bind fun y s2 => .ok (.ref i :: y) s2
  | none => .no
theorem ln : LenA aNil 0 := fun _ _ _ h => by cases h; rfl
theorem lc {a : FE} {b : SS → Res (List Ar)} {n : Nat} (h : LenA b n) : LenA (aCons a b) (n + 1) := fun _ _ _ q => by
  obtain ⟨x, s1, e1, e⟩ := bind_ok q
  obtain ⟨y, s2, e2, e⟩ := bind_ok e
  cases e
  rw [List.length_cons, h _ _ _ e2]
theorem lr {i : Nat} {b : SS → Res (List Ar)} {n : Nat} (h : LenA b n) : LenA (aRef i b) (n + 1) := fun ss _ _ q => by
  unfold aRef at q
  split at q
  · obtain ⟨y, s2, e2, e⟩ := bind_ok q
    cases e
    rw [List.length_cons, h _ _ _ e2]
  · cases q
def eCall (F : FnS) (a : SS → Res (List Ar)) : FE := fun ss => (a ss).bind fun as s1 => match callAt F as s1 with
  | some (.imm d, s2) => .ok d s2
  | _ => .no
def nCall (F : FnS) (a : SS → Res (List Ar)) : FN := fun ss => (a ss).bind fun as s1 => match callAt F as s1 with
  | some (.own d, s2) => .ok d s2
  | _ => .no
section
variable {X : Cx} {k : Nat} {f : Addr} {fd : FuncData} {ps : List Str} {F : FnS} {x : Str} {e : Expr} {es : List Expr} {p pos : Pos} {fa : SS → Res (List Ar)}
theorem callAt_some {as : List Ar} {ss s2 : SS} {r : Sl} (h : callAt F as ss = some (r, s2)) : (refs as).Nodup ∧ ∃ args args', resolve ss as = some args ∧ F args = some (r, args') ∧ putB as args' ss = some s2 := by
  unfold callAt at h
  split at h
  · rename_i n
    obtain ⟨args, h1, h2⟩ := Option.bind_eq_some_iff.mp h
    obtain ⟨q, h3, h4⟩ := Option.bind_eq_some_iff.mp h2
    obtain ⟨t, h5, h6⟩ := Option.map_eq_some_iff.mp h4
    cases h6
    exact ⟨n, args, q.2, h1, h3, h5⟩
  · cases h
theorem call_read {m : Nat} {as : List Ar} {ss s2 : SS} {r : Sl} {fx : Fx} {σ : St} {H1 : Hp} {vs : List V} {Q : VK} {E : XK} (hm : as.length = m) (h : callAt F as ss = some (r, s2)) (fr : FR X.F fx ss σ H1) (ra : ArgsR X.F H1 σ vs as)
    (k : ∀ v H', Kp H1 H' → FR X.F fx s2 σ H' → RetR X.F fx s2 σ H' v r → Q v H') : spOf X.F F m (vs ++ []) H1 Q E := by
  obtain ⟨n, args, args', h1, h2, h3⟩ := callAt_some h
  rw [List.append_nil]
  refine ⟨by rw [(argsR_get ra).1, hm], args, r, args', args_ok fr ra n h1, h2, fun v H' pc => k v H' pc.kp (fr.called ra n h1 pc h3) ?_⟩
  have rt := pc.ret
  cases r with
  | imm d => exact rt
  | own o =>
    obtain ⟨q, e1, e2, e3⟩ := rt
    refine ⟨q, e1, e3, fr.there q e2, fun i si oi hi ho hs => ?_⟩
    obtain ⟨s, o', a, b⟩ := putB_obj h3 n hi ho
    obtain ⟨u, hu, _⟩ := fr.root a b hs
    rw [e2] at hu
    cases hu
  | un => exact rt.elim
  | bor o => exact rt.elim
theorem xcall (G : FnOk X.prog X.w X.F X.mg X.base CX0 k f fd ps (spOf X.F F ps.length)) (hr : Room k X.A) (hm : X.mg x = some (.ref f)) (hk : PySem.W.keepIn X.F (.ref f) = true) (hb : Binds X.F fd ps []) (ha : PA X (e :: es) (tA X.F fa)) (hl : (e :: es).length = ps.length := by rfl) (hal : LenA fa (e :: es).length) (hg : Gl X x := by rfl)
    (hdb : (x == ("__debug__" : Str)) = false := by decide) (he : starEach (e :: es) X.env = (false, eval e X.env) :: starEach es X.env := by rfl) (hpl : (backTo pos (starEach es X.env)).any (·.1) = false := by rfl) : PE X (.Call (.Name x p) (e :: es) [] pos) (tD X.F (eCall F fa)) := by
  refine (pe_call G hr hg hm hk hb .nil pass0 ha hdb he hpl).imp fun σ H Q q => ?_
  obtain ⟨fx, ss, d, s3, fr, e, k⟩ := q
  obtain ⟨as, s1, e1, e⟩ := bind_ok e
  split at e
  · rename_i d2 s2 ec
    cases e
    exact ⟨fx, ss, as, s1, fr, e1, fun vs H1 k1 f1 ra => call_read ((hal _ _ _ e1).trans hl) ec f1 ra fun v H' k2 f2 r2 => k v H' (k1.trans k2) f2 r2⟩
  · cases e
theorem xcallN (G : FnOk X.prog X.w X.F X.mg X.base CX0 k f fd ps (spOf X.F F ps.length)) (hr : Room k X.A) (hm : X.mg x = some (.ref f)) (hk : PySem.W.keepIn X.F (.ref f) = true) (hb : Binds X.F fd ps []) (ha : PA X (e :: es) (tA X.F fa)) (hl : (e :: es).length = ps.length := by rfl) (hal : LenA fa (e :: es).length) (hg : Gl X x := by rfl)
    (hdb : (x == ("__debug__" : Str)) = false := by decide) (he : starEach (e :: es) X.env = (false, eval e X.env) :: starEach es X.env := by rfl) (hpl : (backTo pos (starEach es X.env)).any (·.1) = false := by rfl) : PE X (.Call (.Name x p) (e :: es) [] pos) (tN X.F (nCall F fa)) := by
  refine (pe_call G hr hg hm hk hb .nil pass0 ha hdb he hpl).imp fun σ H Q q => ?_
  obtain ⟨fx, ss, d, s3, fr, e, k⟩ := q
  obtain ⟨as, s1, e1, e⟩ := bind_ok e
  split at e
  · rename_i d2 s2 ec
    cases e
    refine ⟨fx, ss, as, s1, fr, e1, fun vs H1 k1 f1 ra => call_read ((hal _ _ _ e1).trans hl) ec f1 ra fun v H' k2 f2 r2 => ?_⟩
    obtain ⟨q, rfl, r3, n3⟩ := r2
    exact k q H' (k1.trans k2) f2 r3 n3
  · cases e
end
end Dt

/-! Dt6: arguments, built-in calls, by data. -/
namespace Dt
open PySem PySem.Spec L2
open PyProof.Rows hiding St
open PySem.W (alike alikeAll dataLt EachIs)
section
variable {X : Cx} {a b : Expr} {es : List Expr} {pos : Pos} {f g : FE} {fa : SS → Res (List Ar)}
/-! ### arguments of defs -/
theorem an' : PA X [] (tA X.F aNil) := by
  refine pa_nil.imp fun σ H Q q => ?_
  obtain ⟨fx, ss, d, s3, f, e, k⟩ := q
  cases e
  exact k [] H (Kp.refl H) f .nil
theorem ac' (ha : PE X a (tD X.F f)) (hr : PA X es (tA X.F fa)) (hs : starEach (a :: es) X.env = (false, eval a X.env) :: starEach es X.env := by rfl) : PA X (a :: es) (tA X.F (aCons f fa)) := by
  refine (pa_cons ha hr hs).imp fun σ H Q q => ?_
  obtain ⟨fx, ss, d, s3, fr, e, k⟩ := q
  obtain ⟨x, s1, e1, e⟩ := bind_ok e
  obtain ⟨y, s2, e2, e⟩ := bind_ok e
  cases e
  exact ⟨fx, ss, x, s1, fr, e1, fun v H1 k1 f1 r1 => ⟨fx, s1, y, _, f1, e2, fun vs H2 k2 f2 r2 => k _ H2 (k1.trans k2) f2 (.cons (.d (r1.kp k2)) r2)⟩⟩
theorem ar (i : Nat) {x : Str} {p : Pos} (hr : PA X es (tA X.F fa)) (hN : X.N[i]? = some x := by rfl) (hv : Vis X.env.scope x := by first | exact Or.inl rfl | exact Or.inr (Or.inl rfl) | exact Or.inr (Or.inr rfl)) (hs : starEach (Expr.Name x p :: es) X.env = (false, eval (Expr.Name x p) X.env) :: starEach es X.env := by rfl)
    (hd : (x == ("__debug__" : Str)) = false := by decide) (hcd : (x == ("__classdict__" : Str)) = false := by decide) : PA X (Expr.Name x p :: es) (tA X.F (aRef i fa)) := by
  refine (pa_cons (pe_var hN hv hd hcd) hr hs).imp fun σ H Q q => ?_
  obtain ⟨fx, ss, d, s3, fr, e, k⟩ := q
  unfold aRef at e
  split at e
  · rename_i o ho
    obtain ⟨s, hs, hso⟩ := Option.bind_eq_some_iff.mp ho
    obtain ⟨y, s2, e2, e⟩ := bind_ok e
    cases e
    obtain ⟨q, z, ow, _⟩ := (fr.slot i s hs).obj hso
    exact ⟨_, z, fx, ss, y, _, fr, e2, fun vs H2 k2 f2 r2 => k _ H2 k2 f2 (.cons (.ref z) r2)⟩
  · cases e
/-! ### len, all, any, sum, min, max, tuple, list, int, str -/
def gLen : List D → Option D
  | [.list ds] => some (.int ds.length)
  | [.tuple ds] => some (.int ds.length)
  | [.str x] => if x.length ≤ sizeLine then some (.int x.length) else none
  | [d] => (kvsOf d).map fun p => .int p.2.length
  | _ => none
theorem RepAll.one {K : Fg} {H : Hp} {vs : List V} {d : D} (h : RepAll K H vs [d]) : ∃ v, vs = [v] ∧ Rep K H v d := by
  cases h with
  | cons h r => cases r; exact ⟨_, rfl, h⟩
theorem RepAll.two {K : Fg} {H : Hp} {vs : List V} {d e : D} (h : RepAll K H vs [d, e]) : ∃ v w, vs = [v, w] ∧ Rep K H v d ∧ Rep K H w e := by
  cases h with
  | cons h r =>
    obtain ⟨w, rfl, h2⟩ := r.one
    exact ⟨_, w, rfl, h, h2⟩
theorem cLen : CallR X (.builtin "len") (cD X.F gLen) := by
  intro pins s σ H vs us Q I r ⟨ds, z, hd, hz, k⟩
  unfold gLen at hz
  split at hz
  · cases hz
    obtain ⟨v, rfl, rv⟩ := hd.one
    obtain ⟨a, xs, rfl, h1, r1⟩ := rv.lstv
    exact call_len_seq pins s σ H _ us Q I r ⟨a, xs, rfl, .inl h1.sq, k _ _ (Same.refl H) (by rw [r1.len]; exact .int _)⟩
  · cases hz
    obtain ⟨v, rfl, rv⟩ := hd.one
    obtain ⟨a, xs, rfl, h1, r1⟩ := rv.tupv
    exact call_len_seq pins s σ H _ us Q I r ⟨a, xs, rfl, .inr h1, k _ _ (Same.refl H) (by rw [r1.len]; exact .int _)⟩
  · split at hz
    · rename_i hl
      cases hz
      obtain ⟨v, rfl, rv⟩ := hd.one
      obtain rfl := rv.strv
      exact call_len_str pins s σ H _ us Q I r ⟨_, rfl, hl, k _ _ (Same.refl H) (.int _)⟩
    · cases hz
  · obtain ⟨⟨n, kvs⟩, he, rfl⟩ := Option.map_eq_some_iff.mp hz
    obtain ⟨v, rfl, rv⟩ := hd.one
    obtain ⟨a, rfl, g⟩ := rv.dat he
    rw [Vals.ref1 r]
    exact da_len I g fun t s' I' => ⟨.int _, H, I', ⟨t, rfl⟩, k _ _ (Same.refl H) (.int _)⟩
  · cases hz
theorem boolsOf : ∀ {ds : List D} {bs : List Bool}, ds.mapM asB = some bs → ds = bs.map .bool
  | [], bs, h => by cases h; rfl
  | d :: ds, bs, h => by
    rw [List.mapM_cons] at h
    obtain ⟨b, h1, h⟩ := Option.bind_eq_some_iff.mp h
    obtain ⟨bs', h2, h⟩ := Option.bind_eq_some_iff.mp h
    cases h
    rw [asB_some h1, boolsOf h2]
    rfl
theorem RepAll.bools {K : Fg} {H : Hp} : ∀ {vs : List V} {bs : List Bool}, RepAll K H vs (bs.map .bool) → vs = bs.map V.bl
  | [], [], _ => rfl
  | v :: vs, b :: bs, h => by
    cases h with
    | cons h r => rw [h.bool, RepAll.bools r]; rfl
  | v :: vs, [], h => by cases h
  | [], b :: bs, h => by cases h
def gAll : List D → Option D
  | [.list ds] => (ds.mapM asB).map fun bs => .bool (bs.all id)
  | _ => none
def gAny : List D → Option D
  | [.list ds] => (ds.mapM asB).map fun bs => .bool (bs.any id)
  | _ => none
theorem cAll (hc : X.calm = true) : CallR X (.builtin "all") (cD X.F gAll) := by
  intro pins s σ H vs us Q I r ⟨ds, z, hd, hz, k⟩
  unfold gAll at hz
  split at hz
  · obtain ⟨bs, hb, rfl⟩ := Option.map_eq_some_iff.mp hz
    obtain ⟨v, rfl, rv⟩ := hd.one
    obtain ⟨a, xs, rfl, h1, r1⟩ := rv.lstv
    rw [boolsOf hb] at r1
    rw [r1.bools] at h1
    exact cr_all hc pins s σ H _ us Q I r ⟨a, bs, rfl, h1.sq, k _ _ (Same.refl H) (.bl _)⟩
  · cases hz
theorem cAny (hc : X.calm = true) : CallR X (.builtin "any") (cD X.F gAny) := by
  intro pins s σ H vs us Q I r ⟨ds, z, hd, hz, k⟩
  unfold gAny at hz
  split at hz
  · obtain ⟨bs, hb, rfl⟩ := Option.map_eq_some_iff.mp hz
    obtain ⟨v, rfl, rv⟩ := hd.one
    obtain ⟨a, xs, rfl, h1, r1⟩ := rv.lstv
    rw [boolsOf hb] at r1
    rw [r1.bools] at h1
    exact cr_any hc pins s σ H _ us Q I r ⟨a, bs, rfl, h1.sq, k _ _ (Same.refl H) (.bl _)⟩
  · cases hz
def asI : D → Option Int
  | .int i => some i
  | _ => none
theorem asI_some {d : D} {i : Int} (h : asI d = some i) : d = .int i := by
  cases d <;> first | (cases h; rfl) | cases h
theorem intsOf : ∀ {ds : List D} {bs : List Int}, ds.mapM asI = some bs → ds = bs.map .int
  | [], bs, h => by cases h; rfl
  | d :: ds, bs, h => by
    rw [List.mapM_cons] at h
    obtain ⟨b, h1, h⟩ := Option.bind_eq_some_iff.mp h
    obtain ⟨bs', h2, h⟩ := Option.bind_eq_some_iff.mp h
    cases h
    rw [asI_some h1, intsOf h2]
    rfl
theorem mapM_ints : ∀ ns : List Int, (ns.map PyData.int).mapM asI = some ns
  | [] => rfl
  | n :: ns => by rw [List.map_cons, List.mapM_cons, mapM_ints ns]; rfl
theorem mapM_bools : ∀ ns : List Bool, (ns.map PyData.bool).mapM asB = some ns
  | [] => rfl
  | n :: ns => by rw [List.map_cons, List.mapM_cons, mapM_bools ns]; rfl
theorem RepAll.ints {K : Fg} {H : Hp} : ∀ {vs : List V} {bs : List Int}, RepAll K H vs (bs.map .int) → vs = bs.map V.int
  | [], [], _ => rfl
  | v :: vs, b :: bs, h => by
    cases h with
    | cons h r => rw [h.intv, RepAll.ints r]; rfl
  | v :: vs, [], h => by cases h
  | [], b :: bs, h => by cases h
def gSum : List D → Option D
  | [.list ds] => (ds.mapM asI).map fun bs => .int bs.sum
  | _ => none
theorem cSum (hc : X.calm = true) : CallR X (.builtin "sum") (cD X.F gSum) := by
  intro pins s σ H vs us Q I r ⟨ds, z, hd, hz, k⟩
  unfold gSum at hz
  split at hz
  · obtain ⟨bs, hb, rfl⟩ := Option.map_eq_some_iff.mp hz
    obtain ⟨v, rfl, rv⟩ := hd.one
    obtain ⟨a, xs, rfl, h1, r1⟩ := rv.lstv
    rw [intsOf hb] at r1
    rw [r1.ints] at h1
    exact cr_sum hc pins s σ H _ us Q I r ⟨a, bs, rfl, h1.sq, k _ _ (Same.refl H) (.int _)⟩
  · cases hz
def gMax : List D → Option D
  | [.int i, .int j] => some (.int (if j > i then j else i))
  | _ => none
def gMin : List D → Option D
  | [.int i, .int j] => some (.int (if j < i then j else i))
  | _ => none
theorem cMax (hc : X.calm = true) : CallR X (.builtin "max") (cD X.F gMax) := by
  intro pins s σ H vs us Q I r ⟨ds, z, hd, hz, k⟩
  unfold gMax at hz
  split at hz
  · cases hz
    obtain ⟨v, w, rfl, h1, h2⟩ := hd.two
    obtain rfl := h1.intv
    obtain rfl := h2.intv
    exact call_max2 hc pins s σ H _ us Q I r ⟨_, _, rfl, k _ _ (Same.refl H) (.int _)⟩
  · cases hz
theorem cMin (hc : X.calm = true) : CallR X (.builtin "min") (cD X.F gMin) := by
  intro pins s σ H vs us Q I r ⟨ds, z, hd, hz, k⟩
  unfold gMin at hz
  split at hz
  · cases hz
    obtain ⟨v, w, rfl, h1, h2⟩ := hd.two
    obtain rfl := h1.intv
    obtain rfl := h2.intv
    exact call_min2 hc pins s σ H _ us Q I r ⟨_, _, rfl, k _ _ (Same.refl H) (.int _)⟩
  · cases hz
def gTuple : List D → Option D
  | [.list ds] => some (.tuple ds)
  | [.tuple ds] => some (.tuple ds)
  | _ => none
theorem cTuple : CallR X (.type "tuple") (cD X.F gTuple) := by
  intro pins s σ H vs us Q I r ⟨ds, z, hd, hz, k⟩
  unfold gTuple at hz
  split at hz
  · cases hz
    obtain ⟨v, rfl, rv⟩ := hd.one
    obtain ⟨a, xs, rfl, h1, r1⟩ := rv.lstv
    exact call_tuple_of pins s σ H _ us Q I r ⟨a, xs, rfl, .inl ⟨h1.sq, fun p hp => k _ _ (same_new hp) (.tup (.of upd_same) (r1.kp (.same (same_new hp))))⟩⟩
  · cases hz
    obtain ⟨v, rfl, rv⟩ := hd.one
    obtain ⟨a, xs, rfl, h1, r1⟩ := rv.tupv
    exact call_tuple_of pins s σ H _ us Q I r ⟨a, xs, rfl, .inr ⟨h1, k _ _ (Same.refl H) rv⟩⟩
  · cases hz
def gList : List D → Option O
  | [.list ds] => some (.lst ds)
  | [.tuple ds] => some (.lst ds)
  | [d] => (kvsOf d).map fun p => .lst (p.2.map (·.1))
  | _ => none
theorem cListN (hcalm : X.calm = true) : CallR X (.type "list") (cDN X.F gList) := by
  intro pins s σ H vs us Q I r ⟨ds, z, hd, hz, k⟩
  unfold gList at hz
  split at hz
  · cases hz
    obtain ⟨v, rfl, rv⟩ := hd.one
    obtain ⟨a, xs, rfl, h1, r1⟩ := rv.lstv
    exact call_list_of pins s σ H _ us Q I r ⟨a, xs, rfl, .inl h1.sq, fun p hp => k _ _ hp (same_new hp) ⟨_, upd_same, r1.kp (.same (same_new hp))⟩⟩
  · cases hz
    obtain ⟨v, rfl, rv⟩ := hd.one
    obtain ⟨a, xs, rfl, h1, r1⟩ := rv.tupv
    exact call_list_of pins s σ H _ us Q I r ⟨a, xs, rfl, .inr h1, fun p hp => k _ _ hp (same_new hp) ⟨_, upd_same, r1.kp (.same (same_new hp))⟩⟩
  · obtain ⟨⟨n, kvs⟩, he, rfl⟩ := Option.map_eq_some_iff.mp hz
    obtain ⟨v, rfl, rv⟩ := hd.one
    obtain ⟨a, rfl, g⟩ := rv.dat he
    rw [Vals.ref1 r]
    exact da_list (I.ok.hd hcalm) I g fun ks p s' hp rk I' => ⟨.ref p, _, I', rfl, k _ _ hp (same_new hp) ⟨ks, upd_same, rk.kp (.same (same_new hp))⟩⟩
  · cases hz
def gInt : List D → Option D
  | [.int i] => some (.int i)
  | [.bool b] => some (.int (if b = true then 1 else 0))
  | [.str x] => if x.length ≤ 640 then (PySem.intText? x).map .int else none
  | _ => none
theorem cInt : CallR X (.type "int") (cD X.F gInt) := by
  intro pins s σ H vs us Q I r ⟨ds, z, hd, hz, k⟩
  unfold gInt at hz
  split at hz
  · cases hz
    obtain ⟨v, rfl, rv⟩ := hd.one
    obtain rfl := rv.intv
    exact call_int1 pins s σ H _ us Q I r (.inl ⟨_, rfl, k _ _ (Same.refl H) (.int _)⟩)
  · cases hz
    obtain ⟨v, rfl, rv⟩ := hd.one
    obtain rfl := rv.bool
    exact call_int1 pins s σ H _ us Q I r (.inr ⟨_, rfl, k _ _ (Same.refl H) (.int _)⟩)
  · split at hz
    · rename_i hl
      obtain ⟨n, hn, rfl⟩ := Option.map_eq_some_iff.mp hz
      obtain ⟨v, rfl, rv⟩ := hd.one
      obtain rfl := rv.strv
      exact call_int_str pins s σ H _ us Q I r ⟨_, n, rfl, hn, hl, k _ _ (Same.refl H) (.int _)⟩
    · cases hz
  · cases hz
def gStr : List D → Option D
  | [.int i] => if i.natAbs.log2 < 1920 then some (.str (toString i)) else none
  | [.bool b] => some (.str (if b = true then "True" else "False"))
  | [.str x] => some (.str x)
  | _ => none
theorem cStr : CallR X (.type "str") (cD X.F gStr) := by
  intro pins s σ H vs us Q I r ⟨ds, z, hd, hz, k⟩
  unfold gStr at hz
  split at hz
  · split at hz
    · rename_i hl
      cases hz
      obtain ⟨v, rfl, rv⟩ := hd.one
      obtain rfl := rv.intv
      exact call_str_int pins s σ H _ us Q I r ⟨_, rfl, hl, k _ _ (Same.refl H) (.str _)⟩
    · cases hz
  · cases hz
    obtain ⟨v, rfl, rv⟩ := hd.one
    obtain rfl := rv.bool
    obtain ⟨u, rfl, r1⟩ := vals1 r
    cases r1
    exact PySem.P.str_of_bool ⟨.str _, H, I.tok _, ⟨_, rfl⟩, k _ _ (Same.refl H) (.str _)⟩
  · cases hz
    obtain ⟨v, rfl, rv⟩ := hd.one
    obtain rfl := rv.strv
    exact SkE.call_str_str pins s σ H _ us Q I r ⟨_, rfl, k _ _ (Same.refl H) (.str _)⟩
  · cases hz
def gOrd : List D → Option D
  | [.str x] => match x.cps.toList with
    | [c] => some (.int c)
    | _ => none
  | _ => none
theorem cOrd : CallR X (.builtin "ord") (cD X.F gOrd) := by
  intro pins s σ H vs us Q I r ⟨ds, z, hd, hz, k⟩
  unfold gOrd at hz
  split at hz
  · split at hz
    · rename_i c hc
      cases hz
      obtain ⟨v, rfl, rv⟩ := hd.one
      obtain rfl := rv.strv
      have hx := str_one hc
      subst hx
      exact call_ord pins s σ H _ us Q I r ⟨_, rfl, rfl, k _ _ (Same.refl H) (.int _)⟩
    · cases hz
  · cases hz
/-! ### isinstance -/
def tyName : D → String
  | .none => "NoneType"
  | .bool _ => "bool"
  | .int _ => "int"
  | .str _ => "str"
  | .list _ => "list"
  | .tuple _ => "tuple"
  | .dict _ => "dict"
def dIs (T : String) : D → Option D
  | .none => some (.bool false)
  | .bool _ => some (.bool (T == "int" || T == "bool"))
  | .int _ => some (.bool (T == "int"))
  | .str _ => some (.bool (T == "str"))
  | .list _ => some (.bool (T == "list"))
  | .tuple _ => some (.bool (T == "tuple"))
  | .dict _ => none
/-- the five types asked for -/
def IsTy (T : String) : Prop := T = "int" ∨ T = "bool" ∨ T = "str" ∨ T = "list" ∨ T = "tuple"
theorem tyx_of {K : Fg} {H : Hp} {v : V} {d : D} (h : Rep K H v d) (n : ∀ kvs, d ≠ .dict kvs) : TyX K H v (.type (tyName d)) := by
  cases h with
  | non => exact .base .non
  | bl b => exact .base (.bl b)
  | int i => exact .base (.int i)
  | str x => exact .base (.str x)
  | lst h r =>
    rcases h with ⟨o, h⟩ | ⟨o, its, n, h, c, _⟩
    · exact .base (.frz h)
    · exact .kList h c
  | tup h r =>
    rcases h with (h | ⟨o, h⟩) | ⟨o, its, n, h, c, _⟩
    · exact .base (.tup h)
    · exact .fTuple h
    · exact .kTuple h c
  | dK h r => exact absurd rfl (n _)
  | dN h c q r => exact absurd rfl (n _)
  | ins h c r => exact absurd rfl (n _)
  | fn h => exact absurd rfl (n _)
theorem kit_is {K : Fg} {T : String} (hT : IsTy T) {d z : D} (h : dIs T d = some z) : ∃ b, z = .bool b ∧ PySem.W.kitOne K (.type (tyName d)) (.type T) = some b ∧ ∀ kvs, d ≠ .dict kvs := by
  rcases hT with rfl | rfl | rfl | rfl | rfl <;> cases d <;> first | (cases h; done) | (cases h; exact ⟨_, rfl, kit_ty (by simp only [tyName]; decide +kernel), fun _ z => (nomatch z)⟩)
theorem xis {T : String} {x : Str} {p p2 : Pos} (hT : IsTy T) (ha : PE X a (tD X.F f)) (hm : X.mg "isinstance" = none) (hmT : X.mg x = none) (hv : bootBuiltins x = some (.type T)) (hgT : Gl X x := by rfl) (hnT : x ≠ "__name__" := by decide) (hdT : (x == ("__debug__" : Str)) = false := by decide) (hg : Gl X "isinstance" := by rfl) (hv2 : bootBuiltins "isinstance" = some (.builtin "isinstance") := by decide +kernel)
    (he : starEach [a, .Name x p2] X.env = (false, eval a X.env) :: starEach [.Name x p2] X.env := by rfl) (hpl : (backTo pos (starEach [.Name x p2] X.env)).any (·.1) = false := by rfl) (he2 : starEach [.Name x p2] X.env = (false, eval (.Name x p2) X.env) :: starEach [] X.env := by rfl) :
    PE X (.Call (.Name "isinstance" p) [a, .Name x p2] [] pos) (tD X.F (eUn (dIs T) f)) := by
  refine (pe_callB call_isi hg hm hv2 (pa_cons ha (pa_cons (pe_bltn (v := .ty T) hgT hmT hv rfl hnT hdT) pa_nil he2) he) (by decide) (by decide) he hpl).imp fun σ H Q q => ?_
  obtain ⟨fx, ss, d, s3, fr, e, k⟩ := q
  obtain ⟨y, s1, e1, e⟩ := bind_ok e
  obtain ⟨eg, rfl⟩ := of_ok e
  refine ⟨fx, ss, y, _, fr, e1, fun v H1 k1 f1 r1 => ?_⟩
  obtain ⟨bb, rfl, h1, h2⟩ := kit_is (K := X.F) hT eg
  exact ⟨v, .ty T, _, _, bb, rfl, .ty T, tyx_of r1 h2, h1, k _ _ k1 f1 (.bl _)⟩
/-! ### sorted -/
def sortOk (ds : List D) : Bool :=
  ds.all fun d => ds.all fun e => alike d e
def sortKind (ds : List D) : Bool :=
  (ds.all fun d => match d with | .tuple (_ :: _) => true | _ => false) || ds.all fun d => match d with | .none => false | .tuple _ => false | _ => true
theorem sortKind_of {ds : List D} (h : sortKind ds = true) : PySem.W.Sortable ds := by
  unfold sortKind at h
  rw [Bool.or_eq_true] at h
  rcases h with h | h
  · refine .inl fun d hd => ?_
    have q := List.all_eq_true.mp h d hd
    cases d with
    | tuple xs => cases xs with
      | nil => simp at q
      | cons x r => exact ⟨x, r, rfl⟩
    | _ => simp at q
  · refine .inr fun d hd => ?_
    have q := List.all_eq_true.mp h d hd
    cases d <;> simp at q <;> exact ⟨fun z => (nomatch z), fun _ z => (nomatch z)⟩
abbrev sortD (ds : List D) : List D := ds.mergeSort (PySem.W.dataLe false id)
def gSorted : List D → Option O
  | [.list ds] => if sortOk ds = true ∧ sortKind ds = true ∧ PyData.plainAll ds = true ∧ PyData.depthAll ds ≤ 60 then some (.lst (sortD ds)) else none
  | [d] => match kvsOf d with
    | some (_, kvs) => if sortOk (kvs.map (·.1)) = true ∧ sortKind (kvs.map (·.1)) = true ∧ PyData.plainAll (kvs.map (·.1)) = true ∧ PyData.depthAll (kvs.map (·.1)) ≤ 60 then some (.lst (sortD (kvs.map (·.1)))) else none
    | none => none
  | _ => none
theorem depth_mem : ∀ {ds : List D} {d : D}, d ∈ ds → d.depth ≤ PyData.depthAll ds
  | x :: xs, d, h => by
    rw [PyData.depthAll]
    rcases List.mem_cons.mp h with rfl | h
    · exact Nat.le_max_left _ _
    · exact Nat.le_trans (depth_mem h) (Nat.le_max_right _ _)
theorem each_of {pins : List (Addr × Obj)} {σ : St} {H : Hp} {s : Shared} (I : Inv X pins σ H s) : ∀ {vs : List V} {us : List Value} {ds : List D}, RepAll X.F H vs ds → Vals vs us → PyData.plainAll ds = true →
    EachIs (fun u d => ∃ v, RelV v u ∧ Rep X.F H v d) us ds ∧ EachIs (fun u d => ∃ as, Reads s.heap u (id d) as) us ds
  | _, _, _, .nil, .nil, _ => ⟨.nil, .nil⟩
  | _, _, _, .cons h r, .cons rv rr, n => by
    rw [PyData.plainAll, Bool.and_eq_true] at n
    obtain ⟨e1, e2⟩ := each_of I r rr n.2
    exact ⟨.cons ⟨_, rv, h⟩ e1, .cons (Rep.reads (X := X) h I n.1 rv) e2⟩
theorem each_back {H : Hp} {K : Fg} : ∀ {us : List Value} {ds : List D}, EachIs (fun u d => ∃ v, RelV v u ∧ Rep K H v d) us ds → ∃ vs, Vals vs us ∧ RepAll K H vs ds
  | _, _, .nil => ⟨[], .nil, .nil⟩
  | _, _, .cons ⟨v, h1, h2⟩ t => by
    obtain ⟨vs, g1, g2⟩ := each_back t
    exact ⟨v :: vs, .cons h1 g1, .cons h2 g2⟩
def rKeysS (K : Fg) : List V → Hp → VK → Prop := fun vs H Q => ∃ (a : Addr) (n : Bool) (kvs : List (D × D)), vs = [.ref a] ∧ DAt K H a n kvs ∧ (sortOk (kvs.map (·.1)) = true ∧ sortKind (kvs.map (·.1)) = true ∧ PyData.plainAll (kvs.map (·.1)) = true ∧ PyData.depthAll (kvs.map (·.1)) ≤ 60) ∧
  ∀ p H', H p = none → Same H H' → OwnAt K H' p (.lst (sortD (kvs.map (·.1)))) → Q (.ref p) H'
theorem cSortedDict (hcalm : X.calm = true) (hu : X.A.units + 64 < cLine) : CallR X (.builtin "sorted") (rKeysS X.F) := by
  intro pins s σ H vs us Q I r ⟨a, n, kvs, ex, g, hc, k⟩
  subst ex
  rw [Vals.ref1 r]
  obtain ⟨lo, es, ep, hraw, hsz, hsl, ks, _, rk, _, hks⟩ := da_raw I g
  refine Calls.call_function_entry PyProof.Rows.kind_sorted PyProof.Rows.plain_sorted PyProof.Rows.entry_sorted (PyProof.Rows.args_sorted1 _) ?_
  unfold Builtin.«sorted»
  refine wpAny_bind (m := checkCount "sorted" 1 1 _) (wpAny_pure ?_)
  refine wpAny_bind (PySem.W.kdu_collect (A := X.A.in1) (KdlSrc.rawDict lo) (I.ok.hd hcalm) hraw hsl fun h' tk acc hk hacc => ?_)
  have hlk : ks.length = kvs.length := by rw [rk.len, List.length_map]
  have hal : acc.toList.length = ks.length := by rw [Array.length_toList, hacc.1, hsz, hlk]
  have hV : Vals ks acc.toList := vals_nth hal fun j u e => by
    obtain ⟨hi, rfl⟩ := hacc.2 j u (by rw [← Array.getElem?_toList]; exact e)
    obtain ⟨k', v', q1, _, q3, _⟩ := hks j hi
    exact ⟨k', q1, q3⟩
  have I1 : Inv X pins σ H { s with heap := h', toks := tk } := I.kept hk
  have hzl : ks.length ≤ sizeLine := by rw [hlk, ← hsz]; exact hsl
  refine wpAny_bind (wpAny_newList ?_ (by rw [hal]; exact hzl))
  have hoL : (h'.push (seqObj "list" acc.toList.toArray 0)).get? h'.objs.size = some (seqObj "list" acc.toList.toArray 0) := Heap.get?_push_size _ rfl
  show wpAny _ _ _ _ _ { s with heap := h'.push (seqObj "list" acc.toList.toArray 0), toks := tk }
  obtain ⟨e1, e2⟩ := each_of I1 rk hV hc.2.2.1
  have hal2 : PySem.W.AllAlike ((kvs.map (·.1)).map id) := fun d hd d' hd' => by
    rw [List.map_id] at hd hd'
    exact List.all_eq_true.mp (List.all_eq_true.mp hc.1 d hd) d' hd'
  have hks2 : PySem.W.Sortable ((kvs.map (·.1)).map id) := by rw [List.map_id]; exact sortKind_of hc.2.1
  have er' : EachIs (fun v b => ∃ as, Reads (PySem.W.sortingHeap (h'.push (seqObj "list" acc.toList.toArray 0)) h'.objs.size acc.toList) v (id b) as) acc.toList (kvs.map (·.1)) := e2.mono fun u b ⟨as, r⟩ => ⟨as, PyProof.Rows.Reads.keeps (fun c o q => by
    have hb : c < h'.objs.size := Heap.lt_size q
    exact PySem.W.sortingHeap_old (Nat.ne_of_lt hb) (Heap.get?_push_of_some _ q)) r⟩
  refine wpAny_bind (wpAny_holding (wpAny_call_entry PyProof.Rows.slot_list_sort ⟨_, hoL, rfl⟩ PyProof.Rows.entry_list_sort
    (PySem.W.list_sort_vals (s := { s with heap := h'.push (seqObj "list" acc.toList.toArray 0), toks := tk }) hoL (PySem.W.SortsAt.data (s := { s with heap := PySem.W.sortingHeap (h'.push (seqObj "list" acc.toList.toArray 0)) h'.objs.size acc.toList, toks := tk }) (PySem.W.each_map (R := fun v d => ∃ as, Reads (PySem.W.sortingHeap (h'.push (seqObj "list" acc.toList.toArray 0)) h'.objs.size acc.toList) v d as) id er') hal2 hks2 fun d hd => ?_) (by rw [hal]; exact hzl) ⟨_, rfl, ?_⟩) (PyProof.Rows.args_list_sort _)))
  · rw [List.map_id] at hd
    have := depth_mem hd
    show X.A.units + 2 + d.depth < cLine
    omega
  have eo := PySem.W.sortVals_data false e1 er' hal2
  obtain ⟨zs, q1, q2⟩ := each_back eo
  obtain ⟨e', he'⟩ := PyProof.Rows.sortedHeap_at (vs := acc.toList) (out := (PySem.W.sortVals (PySem.W.dataKind (PySem.W.sortingHeap (h'.push (seqObj "list" acc.toList.toArray 0)) h'.objs.size acc.toList) ((kvs.map (·.1)).map id)) false acc.toList acc.toList).toArray) hoL
  have hlen : zs.length ≤ sizeLine := by
    rw [q1.length, PySem.W.sortVals_length false rfl, hal]
    exact hzl
  refine wpAny_pure ⟨_, rfl, .ref h'.objs.size, upd H h'.objs.size (.lst zs), I1.laid (t' := tk) (fun b u e => ?_) (Nat.le_refl _)
    (show ObjOk X.prog X.w _ _ _ (.lst zs) from ⟨hlen, _, e', q1, he'⟩), rfl, k _ _ (I1.hok.fresh (Nat.le_refl _)) (same_new (I1.hok.fresh (Nat.le_refl _))) ⟨zs, upd_same, q2.kp (.same (same_new (I1.hok.fresh (Nat.le_refl _))))⟩⟩
  have hb : b < h'.objs.size := Heap.lt_size e
  rw [PyProof.Rows.sortedHeap_old (Nat.ne_of_lt hb) (by rw [size_push']; exact Nat.lt_succ_of_lt hb)]
  exact Heap.get?_push_of_some _ e
theorem cSortedN (hcalm : X.calm = true) (hu : X.A.units + 64 < cLine) : CallR X (.builtin "sorted") (cDN X.F gSorted) := by
  intro pins s σ H vs us Q I r ⟨ds, z, hd, hz, k⟩
  unfold gSorted at hz
  split at hz
  · rename_i xs
    split at hz
    · rename_i hc
      cases hz
      obtain ⟨v, rfl, rv⟩ := hd.one
      obtain ⟨a, ws, rfl, h1, r1⟩ := rv.lstv
      obtain ⟨its, rw_, hl, hzl⟩ := I.list h1.sq
      rw [Vals.ref1 r]
      obtain ⟨e1, e2⟩ := each_of I r1 rw_ hc.2.2.1
      have hal : PySem.W.AllAlike (xs.map id) := fun d hd d' hd' => by
        rw [List.map_id] at hd hd'
        exact List.all_eq_true.mp (List.all_eq_true.mp hc.1 d hd) d' hd'
      refine PySem.W.sorted_data (enc := id) hl.isList e1 e2 hal (by rw [List.map_id]; exact sortKind_of hc.2.1) (by rw [← r1.len]; exact hzl) (fun d hd => ?_) fun out hlen hout => ?_
      · have := depth_mem hd
        show X.A.units + 2 + d.depth < cLine
        omega
      · obtain ⟨zs, q1, q2⟩ := each_back hout
        obtain ⟨ep, he'⟩ := PyProof.Rows.sortedAll_at s.heap its out.toArray
        have hzs : zs.length ≤ sizeLine := by rw [q1.length, hlen, ← r1.len]; exact hzl
        exact ⟨.ref _, upd H (s.heap.objs.size + 1) (.lst zs), I.laid (t' := s.toks) (fun _ _ => PyProof.Rows.sortedAll_old) (Nat.le_succ _) ⟨hzs, out, ep, q1, he'⟩, rfl,
          k _ _ (I.hok.fresh (Nat.le_succ _)) (same_new (I.hok.fresh (Nat.le_succ _))) ⟨zs, upd_same, q2.kp (.same (same_new (I.hok.fresh (Nat.le_succ _))))⟩⟩
    · cases hz
  · split at hz
    · rename_i n kvs he
      split at hz
      · rename_i hc
        cases hz
        obtain ⟨v, rfl, rv⟩ := hd.one
        obtain ⟨a, rfl, g⟩ := rv.dat he
        exact cSortedDict hcalm hu pins s σ H _ us Q I r ⟨a, n, kvs, rfl, g, hc, k⟩
      · cases hz
    · cases hz
  · cases hz
end
end Dt

/-! Dt7: what is walked; list comprehensions, by data. -/
namespace Dt
open PySem PySem.Spec L2
open PyProof.Rows hiding St
open RZ
/-! ### a frame's objects lent to a block -/
def lendS : Sl → Sl
  | .own o => .bor o
  | s => s
def lend (ss : SS) : SS := ss.map lendS
def unlendS (a b : Sl) : Sl := match a, b with
  | .own _, .bor o => .own o
  | .bor _, .bor o => .bor o
  | _, .imm d => .imm d
  | _, _ => .un
def unlend (a b : SS) : SS := List.zipWith unlendS a b
def fxr (ss : SS) (σ : St) (H : Hp) : Fx := ⟨H, fun i => match (ss[i]?).bind Sl.obj, σ[i]? with
  | some _, some (some (.ref p)) => some p
  | _, _ => none⟩
theorem fxr_some {ss : SS} {σ : St} {H : Hp} {i : Nat} {p : Addr} (h : (fxr ss σ H).P i = some p) : ∃ s o, ss[i]? = some s ∧ s.obj = some o ∧ σ[i]? = some (some (.ref p)) := by
  unfold fxr at h
  simp only at h
  split at h
  · rename_i o q ho hs
    cases h
    obtain ⟨s, a, b⟩ := Option.bind_eq_some_iff.mp ho
    exact ⟨s, o, a, b, hs⟩
  · cases h
theorem fxr_of {ss : SS} {σ : St} {H : Hp} {i : Nat} {p : Addr} {s : Sl} {o : O} (h1 : ss[i]? = some s) (h2 : s.obj = some o) (h3 : σ[i]? = some (some (.ref p))) : (fxr ss σ H).P i = some p := by
  unfold fxr
  simp only [h1, h3, Option.bind_some, h2]
theorem lend_get {ss : SS} {i : Nat} {s : Sl} (h : (lend ss)[i]? = some s) : ∃ t, ss[i]? = some t ∧ s = lendS t := by
  unfold lend at h
  rw [List.getElem?_map] at h
  obtain ⟨t, a, b⟩ := Option.map_eq_some_iff.mp h
  exact ⟨t, a, b.symm⟩
theorem lend_obj (t : Sl) : (lendS t).obj = t.obj := by cases t <;> rfl
section
variable {K : Fg} {fx : Fx} {ss s2 : SS} {σ : St} {H H2 : Hp}
theorem FR.lend (f : FR K fx ss σ H) : FR K (fxr ss σ H) (lend ss) σ H := by
  refine ⟨by rw [Dt.lend, List.length_map]; exact f.len, Kp.refl H, fun a o e _ => e, fun a e => e, fun i sl e => ?_, fun i j p si sj oi oj ei ej eoi eoj hi hj => ?_⟩
  · obtain ⟨t, a, rfl⟩ := lend_get e
    have q := f.slot i t a
    cases t with
    | un => trivial
    | imm d => exact q
    | own o => obtain ⟨p, b, c, d⟩ := q; exact ⟨p, b, c, fxr_of a rfl b⟩
    | bor o => obtain ⟨p, b, c, d⟩ := q; exact ⟨p, b, c, fxr_of a rfl b⟩
  · obtain ⟨t, a, rfl⟩ := lend_get ei
    obtain ⟨u, b, rfl⟩ := lend_get ej
    exact f.dis i j p t u oi oj a b ((lend_obj t).symm.trans eoi) ((lend_obj u).symm.trans eoj) hi hj
theorem unlend_get {i : Nat} {s : Sl} (h : (unlend ss s2)[i]? = some s) : ∃ t u, ss[i]? = some t ∧ s2[i]? = some u ∧ s = unlendS t u := by
  unfold unlend at h
  rw [List.getElem?_zipWith] at h
  split at h
  · rename_i t u a b
    exact ⟨t, u, a, b, (Option.some.inj h).symm⟩
  · cases h
theorem unlend_obj {t u : Sl} {o : O} (h : (unlendS t u).obj = some o) : u = .bor o ∧ ((∃ x, t = .own x) ∨ ∃ x, t = .bor x) := by
  cases t <;> cases u <;> first | (cases h; done) | (cases h; exact ⟨rfl, .inl ⟨_, rfl⟩⟩) | (cases h; exact ⟨rfl, .inr ⟨_, rfl⟩⟩)
theorem FR.unlend {τ : St} (f : FR K fx ss σ H) (g : FR K (fxr ss σ H) s2 τ H2) (k : Kp H H2) (hl : τ.length = σ.length := by rfl) : FR K fx (unlend ss s2) τ H2 := by
  refine ⟨?_, f.kp.trans k, fun a o e hP => g.rest a o (f.rest a o e hP) fun i z => ?_, fun a e => f.there a (g.there a e), fun i sl e => ?_, fun i j p si sj oi oj ei ej eoi eoj hi hj => ?_⟩
  · have h1 := f.len
    have h2 := g.len
    unfold Dt.unlend
    rw [List.length_zipWith]
    omega
  · obtain ⟨s, o', h1, h2, h3⟩ := fxr_some z
    obtain ⟨p, a1, a2, a3⟩ := (f.slot i s h1).obj h2
    rw [h3] at a1
    cases a1
    rcases a3 with a3 | a3
    · rw [e] at a3; cases a3
    · exact hP i a3
  · obtain ⟨t, u, a, b, rfl⟩ := unlend_get e
    have q1 := f.slot i t a
    have q2 := g.slot i u b
    cases t with
    | un => cases u <;> first | exact q2 | trivial
    | imm d => cases u <;> first | exact q2 | trivial
    | own o => cases u with
      | un => trivial
      | imm d => exact q2
      | own x => trivial
      | bor x =>
        obtain ⟨p, a1, a2, a3⟩ := q1
        obtain ⟨p2, b1, b2, b3⟩ := q2
        obtain ⟨_, _, _, _, z⟩ := fxr_some b3
        rw [a1] at z
        cases z
        exact ⟨p, b1, b2, a3⟩
    | bor o => cases u with
      | un => trivial
      | imm d => exact q2
      | own x => trivial
      | bor x =>
        obtain ⟨p, a1, a2, a3⟩ := q1
        obtain ⟨p2, b1, b2, b3⟩ := q2
        obtain ⟨_, _, _, _, z⟩ := fxr_some b3
        rw [a1] at z
        cases z
        exact ⟨p, b1, b2, a3⟩
  · obtain ⟨t, u, a, b, rfl⟩ := unlend_get ei
    obtain ⟨t', u', a', b', rfl⟩ := unlend_get ej
    obtain ⟨rfl, _⟩ := unlend_obj eoi
    obtain ⟨rfl, _⟩ := unlend_obj eoj
    exact g.dis i j p _ _ oi oj b b' rfl rfl hi hj
/-- what is lent are slots of ours -/
theorem unlend_old {i : Nat} {s : Sl} {o : O} (h : (unlend ss s2)[i]? = some s) (ho : s.obj = some o) : ∃ t u, ss[i]? = some t ∧ t.obj = some u := by
  obtain ⟨t, u, a, b, rfl⟩ := unlend_get h
  rcases unlend_obj ho with ⟨_, ⟨x, rfl⟩ | ⟨x, rfl⟩⟩
  · exact ⟨_, x, a, rfl⟩
  · exact ⟨_, x, a, rfl⟩
/-! ### slots forgotten, and given back -/
def wipeS (ss : SS) : List Nat → SS
  | [] => ss
  | v :: vs => (wipeS ss vs).set v .un
theorem FR.wipe (f : FR K fx ss σ H) : ∀ vs : List Nat, FR K fx (wipeS ss vs) (L2.wipe σ vs) H
  | [] => f
  | v :: vs => (f.wipe vs).un
def keepS : Sl → Sl
  | .imm d => .imm d
  | _ => .un
def backF (vs : List Nat) : Nat → SS → SS → SS
  | i, s :: ss, t :: ts => (if i ∈ vs then keepS s else t) :: backF vs (i + 1) ss ts
  | _, _, _ => []
def backS (vs : List Nat) (ss s2 : SS) : SS := backF vs 0 ss s2
theorem backF_get {vs : List Nat} : ∀ {i : Nat} {ss ts : SS} {j : Nat} {x : Sl}, (backF vs i ss ts)[j]? = some x → ∃ s t, ss[j]? = some s ∧ ts[j]? = some t ∧ x = if i + j ∈ vs then keepS s else t
  | i, s :: ss, t :: ts, 0, x, h => ⟨s, t, rfl, rfl, (Option.some.inj h).symm⟩
  | i, s :: ss, t :: ts, j + 1, x, h => by
    obtain ⟨u, w, a, b, c⟩ := backF_get (i := i + 1) (ss := ss) (ts := ts) (j := j) h
    exact ⟨u, w, a, b, by rw [c, Nat.add_assoc, Nat.add_comm 1 j]⟩
  | i, [], ts, j, x, h => by cases ts <;> cases h
  | i, s :: ss, [], j, x, h => by cases h
theorem backF_len {vs : List Nat} : ∀ {i : Nat} {ss ts : SS}, ss.length = ts.length → (backF vs i ss ts).length = ss.length
  | i, s :: ss, t :: ts, h => congrArg (· + 1) (backF_len (i := i + 1) (Nat.succ.inj h))
  | i, [], [], h => rfl
  | i, [], t :: ts, h => by cases h
  | i, s :: ss, [], h => by cases h
/-- the block's own slots stand as they stood -/
theorem FR.back {vs : List Nat} (f : FR K fx ss σ H) (k : Kp H H2) (g : FR K fx s2 (L2.wipe σ vs) H2) : FR K fx (backS vs ss s2) σ H2 := by
  have l1 := f.len
  have l2 := g.len
  rw [wipe_length] at l2
  have get : ∀ (j : Nat) (x : Sl), (backS vs ss s2)[j]? = some x → (∃ s, ss[j]? = some s ∧ x = keepS s) ∨ (j ∉ vs ∧ s2[j]? = some x) := fun j x h => by
    obtain ⟨s, t, a, b, c⟩ := backF_get h
    rw [Nat.zero_add] at c
    by_cases hj : j ∈ vs
    · rw [if_pos hj] at c
      exact .inl ⟨s, a, c⟩
    · rw [if_neg hj] at c
      exact .inr ⟨hj, by rw [b, c]⟩
  have same : ∀ j, j ∉ vs → (L2.wipe σ vs)[j]? = σ[j]? := fun j h => by rw [wipe_get, if_neg h]
  refine ⟨?_, g.kp, g.rest, g.there, fun i sl e => ?_, fun i j p si sj oi oj ei ej eoi eoj hi hj => ?_⟩
  · unfold backS
    rw [backF_len (by omega)]
    exact l1
  · rcases get i sl e with ⟨s, a, rfl⟩ | ⟨n, a⟩
    · have q := f.slot i s a
      cases s with
      | imm d => obtain ⟨v, b, c⟩ := q; exact ⟨v, b, c.kp k⟩
      | un => trivial
      | own o => trivial
      | bor o => trivial
    · have q := g.slot i sl a
      rw [same i n] at q
      exact q
  · rcases get i si ei with ⟨s, a, rfl⟩ | ⟨n, a⟩
    · cases s <;> cases eoi
    · rcases get j sj ej with ⟨s, b, rfl⟩ | ⟨m, b⟩
      · cases s <;> cases eoj
      · exact g.dis i j p si sj oi oj a b eoi eoj (by rw [same i n]; exact hi) (by rw [same j m]; exact hj)
theorem wipeS_old : ∀ {vs : List Nat} {i : Nat} {s : Sl} {o : O}, (wipeS ss vs)[i]? = some s → s.obj = some o → ss[i]? = some s
  | [], _, _, _, h, _ => h
  | v :: vs, i, s, o, h, ho => by
    rcases get_set_eq h with ⟨rfl, rfl⟩ | ⟨_, h⟩
    · cases ho
    · exact wipeS_old h ho
end
/-! ### comprehensions -/
def turnF (vs : List Nat) (g : GF) (t : FB) (e : FE) (d : D) (ss : SS) : Option (Option D × SS) :=
  match g d (lend ss) with
  | none => none
  | some s1 => match t s1 with
    | .no => none
    | .ok false s2 => some (none, unlend ss (wipeS s2 vs))
    | .ok true s2 => match e s2 with
      | .no => none
      | .ok x s3 => some (some x, unlend ss (wipeS s3 vs))
def compF (vs : List Nat) (g : GF) (t : FB) (e : FE) : List D → SS → Option (List D × SS)
  | [], ss => some ([], ss)
  | d :: r, ss => match turnF vs g t e d ss with
    | none => none
    | some (o, s1) => match compF vs g t e r s1 with
      | none => none
      | some (xs, s2) => some (o.toList ++ xs, s2)
def nLc (vs : List Nat) (src : FL) (g : GF) (t : FB) (e : FE) : FN := fun ss => (src ss).bind fun ds s1 =>
  match compF vs g t e ds (wipeS s1 vs) with
    | some (xs, s2) => if xs.length ≤ sizeLine then .ok (.lst xs) (backS vs s1 s2) else .no
    | none => .no
def bYes : FB := fun ss => .ok true ss
section
variable {X : Cx}
theorem tyes : PTs X [] (tT X.F bYes) := ⟨fun pins s σ H Q I q => pts_nil.run pins s σ H Q I (by
  obtain ⟨fx, ss, b, s1, f, e, k⟩ := q
  cases e
  exact k H (Kp.refl H) f)⟩
theorem wipe_wipe {σ : St} {vs : List Nat} : L2.wipe (L2.wipe σ vs) vs = L2.wipe σ vs := by
  apply List.ext_getElem?
  intro j
  rw [wipe_get, wipe_get, wipe_length]
  by_cases h : j ∈ vs
  · rw [if_pos h, if_pos h]
  · rw [if_neg h, if_neg h]
/-- one loop of a comprehension; Dl: the list that is made -/
theorem loop_read {vs : List Nat} {gg : GF} {t : FB} {e : FE} {σ : St} {H1 : Hp} {K : Fg} {fx : Fx} {sI sE : SS} {ds xs acc0 : List D} {a0 : List V} {Dl : Addr} {J : It} {R : Hp → Prop} (w : Walk K J ds H1) (fw : FR K fx sI (L2.wipe σ vs) H1) (nw : NewAt fx sI (L2.wipe σ vs) Dl)
    (hD : H1 Dl = some (.lst a0)) (r0 : RepAll K H1 a0 acc0) (hcomp : compF vs gg t e ds sI = some (xs, sE)) (hsz : acc0.length + xs.length ≤ sizeLine)
    (hR : ∀ H2 a1, Kp H1 H2 → FR K fx sE (L2.wipe σ vs) H2 → (∀ (j : Nat) (s : Sl) (o : O), sE[j]? = some s → s.obj = some o → ∃ t u, sI[j]? = some t ∧ t.obj = some u) → H2 Dl = some (.lst a1) → RepAll K H2 a1 (acc0 ++ xs) → R H2) :
    ∃ W : Nat → Nat → Hp → Prop, (∃ m, W 0 m H1) ∧ ∀ i m H, W i m H → (J.stop i H ∧ R H) ∨ (J.go i H ∧ ∃ Nx : Hp → Prop, (∀ H', Nx H' → ∃ m', m' < m ∧ W (i + 1) m' H') ∧ ∀ x H', J.yld i H x H' → gD K gg vs x (L2.wipe σ vs) H' fun σ2 H2 => L2.wipe σ2 vs = L2.wipe σ vs ∧ tT K t σ2 H2 fun b H3 =>
      if b = true then tD K e σ2 H3 fun y H4 => ∃ acc, H4 Dl = some (.lst acc) ∧ acc.length < sizeLine ∧ Nx (upd H4 Dl (.lst (acc ++ [y]))) else Nx H3) := by
  refine ⟨fun i m H2 => m = ds.length - i ∧ i ≤ ds.length ∧ Kp H1 H2 ∧ ∃ ssi dn accV rest, FR K fx ssi (L2.wipe σ vs) H2 ∧ (∀ (j : Nat) (s : Sl) (o : O), ssi[j]? = some s → s.obj = some o → ∃ t u, sI[j]? = some t ∧ t.obj = some u) ∧
      H2 Dl = some (.lst accV) ∧ RepAll K H2 accV (acc0 ++ dn) ∧ compF vs gg t e (ds.drop i) ssi = some (rest, sE) ∧ dn ++ rest = xs,
    ⟨ds.length, by omega, Nat.zero_le _, Kp.refl _, sI, [], a0, xs, fw, fun j s o a b => ⟨s, o, a, b⟩, hD, by rw [List.append_nil]; exact r0, hcomp, rfl⟩, fun i m H2 ⟨em, hle, k2, ssi, dn, accV, rest, f2, old, hDl, ra, hc2, hx⟩ => ?_⟩
  have nr : ∀ (j : Nat) (s : Sl) (o : O), ssi[j]? = some s → s.obj = some o → (L2.wipe σ vs)[j]? ≠ some (some (.ref Dl)) := fun j s o a b => by
    obtain ⟨t', u, c, d⟩ := old j s o a b
    exact nw.2 j t' u c d
  have wi := w i H2 k2
  by_cases hlt : i < ds.length
  · have ed : ds.drop i = ds[i] :: ds.drop (i + 1) := List.drop_eq_getElem_cons hlt
    rw [ed] at hc2
    unfold compF at hc2
    split at hc2
    · cases hc2
    rename_i oo sN hturn
    split at hc2
    · cases hc2
    rename_i xs' sE' hrest
    cases hc2
    obtain ⟨go, yl⟩ := wi.1 ds[i] (List.getElem?_eq_getElem hlt)
    refine .inr ⟨go, fun H5 => Kp H1 H5 ∧ ∃ ssi dn accV rest, FR K fx ssi (L2.wipe σ vs) H5 ∧ (∀ (j : Nat) (s : Sl) (o : O), ssi[j]? = some s → s.obj = some o → ∃ t u, sI[j]? = some t ∧ t.obj = some u) ∧
      H5 Dl = some (.lst accV) ∧ RepAll K H5 accV (acc0 ++ dn) ∧ compF vs gg t e (ds.drop (i + 1)) ssi = some (rest, sE) ∧ dn ++ rest = xs, fun H5 ⟨a, b⟩ => ⟨ds.length - (i + 1), by omega, rfl, hlt, a, b⟩, fun x H3 hy => ?_⟩
    obtain ⟨sm, rp⟩ := yl x H3 hy
    have f3 := f2.same sm
    have fl3 := f3.lend
    have hD3 : H3 Dl = some (.lst accV) := sm _ _ hDl
    have keepD : ∀ (s : SS) (τ : St) (H4 : Hp), FR K (fxr ssi (L2.wipe σ vs) H3) s τ H4 → H4 Dl = some (.lst accV) := fun s τ H4 g => g.rest Dl _ hD3 fun j z => by
      obtain ⟨s', o', a, b, c⟩ := fxr_some z
      exact nr j s' o' a b c
    have old2 : ∀ (s2 : SS) (j : Nat) (s : Sl) (o : O), (unlend ssi s2)[j]? = some s → s.obj = some o → ∃ t u, sI[j]? = some t ∧ t.obj = some u := fun s2 j s o a b => by
      obtain ⟨t', u, c, d⟩ := unlend_old a b
      exact old j t' u c d
    unfold turnF at hturn
    cases eg : gg ds[i] (lend ssi) with
    | none => rw [eg] at hturn; cases hturn
    | some s4 =>
      rw [eg] at hturn
      simp only at hturn
      refine ⟨_, lend ssi, ds[i], s4, fl3, rp, eg, fun σ2 H4 wq0 k4 f4 => ?_⟩
      have wq := wq0.trans wipe_wipe
      refine ⟨wq, ?_⟩
      cases et : t s4 with
      | no => rw [et] at hturn; cases hturn
      | ok b s5 =>
        rw [et] at hturn
        refine ⟨_, s4, b, s5, f4, et, fun H5 k5 f5 => ?_⟩
        have kk : Kp H2 H5 := (Kp.same sm).trans (k4.trans k5)
        cases b with
        | false =>
          simp only [Option.some.injEq, Prod.mk.injEq] at hturn
          obtain ⟨rfl, rfl⟩ := hturn
          refine iteF ⟨k2.trans kk, _, dn, accV, xs', ?_, old2 _, keepD _ _ _ f5, ra.kp kk, hrest, hx⟩
          have g5 := f5.wipe vs
          rw [wq] at g5
          exact f3.unlend g5 (k4.trans k5)
        | true =>
          simp only at hturn
          cases ee : e s5 with
          | no => rw [ee] at hturn; cases hturn
          | ok y s6 =>
            rw [ee] at hturn
            simp only [Option.some.injEq, Prod.mk.injEq] at hturn
            obtain ⟨rfl, rfl⟩ := hturn
            refine iteT ⟨_, s5, y, s6, f5, ee, fun v H6 k6 f6 r6 => ?_⟩
            have hD6 := keepD _ _ _ f6
            have k36 : Kp H3 H6 := (k4.trans k5).trans k6
            have k67 : Kp H6 (upd H6 Dl (.lst (accV ++ [v]))) := Kp.upd hD6 loose_lst
            have g6 := f6.wipe vs
            rw [wq] at g6
            have f7 := f3.unlend g6 k36
            have kall : Kp H2 H6 := (Kp.same sm).trans k36
            have hlen := congrArg List.length hx
            simp only [List.length_append, Option.toList_some, List.length_cons, List.length_nil] at hlen
            refine ⟨accV, hD6, ?_, (k2.trans kall).trans k67, _, dn ++ [y], accV ++ [v], xs', f7.lock ⟨nw.1, fun j s o a b => ?_⟩ hD6 loose_lst, old2 _, upd_same, ?_, hrest, ?_⟩
            · rw [ra.len, List.length_append]
              omega
            · obtain ⟨t', u, c, d⟩ := unlend_old a b
              exact nr j t' u c d
            · rw [← List.append_assoc]
              exact ((ra.kp kall).append (.cons r6 .nil)).kp k67
            · rw [List.append_assoc]
              exact hx
  · have ed : ds.drop i = [] := List.drop_eq_nil_of_le (by omega)
    rw [ed] at hc2
    unfold compF at hc2
    cases hc2
    rw [List.append_nil] at hx
    subst hx
    exact .inl ⟨wi.2 (by omega), hR H2 accV k2 f2 old hDl ra⟩
theorem back_new {vs : List Nat} {σ : St} {fx : Fx} {s1 sE : SS} {Dl : Addr} (n0 : fx.H0 Dl = none) (nr : ∀ (j : Nat) (s : Sl) (o : O), sE[j]? = some s → s.obj = some o → (L2.wipe σ vs)[j]? ≠ some (some (.ref Dl))) : NewAt fx (backS vs s1 sE) σ Dl := by
  refine ⟨n0, fun j s o a b => ?_⟩
  obtain ⟨s', t', a1, a2, a3⟩ := backF_get a
  rw [Nat.zero_add] at a3
  by_cases hj : j ∈ vs
  · rw [if_pos hj] at a3
    subst a3
    cases s' <;> cases b
  · rw [if_neg hj] at a3
    subst a3
    have q := nr j _ o a2 b
    rw [wipe_get, if_neg hj] at q
    exact q
theorem lc_read {vs : List Nat} {fl : FL} {gg : GF} {t : FB} {e : FE} {σ : St} {H : Hp} {Q : VK} {K : Fg} (q : tN K (nLc vs fl gg t e) σ H Q) : tLc (iD K fl) (gD K gg vs) (tT K t) (tD K e) vs σ H Q := by
  obtain ⟨fx, ss, o, s3, f, eq, k⟩ := q
  obtain ⟨ds, s1, e1, eq⟩ := bind_ok eq
  split at eq
  rotate_left
  · cases eq
  rename_i xs sE hcomp
  split at eq
  rotate_left
  · cases eq
  rename_i hsz
  cases eq
  refine ⟨fx, ss, ds, s1, f, e1, fun J H1 k1 f1 w Dl hD => ?_⟩
  have fw : FR K fx (wipeS s1 vs) (L2.wipe σ vs) H1 := f1.wipe vs
  have nw : NewAt fx (wipeS s1 vs) (L2.wipe σ vs) Dl := fw.newAt hD
  have k1' : Kp H1 (upd H1 Dl (.lst [])) := .same (same_new hD)
  refine loop_read (R := fun H2 => Q (.ref Dl) H2) (fun i H' kk => w i H' (k1'.trans kk)) (fw.new hD) nw upd_same (.nil : RepAll K _ [] []) hcomp (by simpa using hsz) fun H2 a1 k2 f2 old hDl ra => ?_
  have kk := k1'.trans k2
  exact k Dl H2 (k1.trans kk) (f1.back kk f2) ⟨a1, hDl, ra⟩ (back_new nw.1 fun j s o a b => by
    obtain ⟨t', u, c, d⟩ := old j s o a b
    exact nw.2 j t' u c d)
/-! two clauses -/
def turn2F (vs vs1 : List Nat) (g : GF) (t : FB) (src1 : FL) (g1 : GF) (t1 : FB) (e : FE) (d : D) (ss : SS) : Option (List D × SS) :=
  match g d (lend ss) with
  | none => none
  | some s1 => match t s1 with
    | .no => none
    | .ok false s2 => some ([], unlend ss (wipeS s2 vs))
    | .ok true s2 => match src1 s2 with
      | .no => none
      | .ok ds1 s3 => match compF vs1 g1 t1 e ds1 (wipeS (unlend ss s3) vs1) with
        | none => none
        | some (xs, sE) => some (xs, wipeS sE vs)
def comp2F (vs vs1 : List Nat) (g : GF) (t : FB) (src1 : FL) (g1 : GF) (t1 : FB) (e : FE) : List D → SS → Option (List D × SS)
  | [], ss => some ([], ss)
  | d :: r, ss => match turn2F vs vs1 g t src1 g1 t1 e d ss with
    | none => none
    | some (o, s1) => match comp2F vs vs1 g t src1 g1 t1 e r s1 with
      | none => none
      | some (xs, s2) => some (o ++ xs, s2)
def nLc2 (vs vs1 : List Nat) (src : FL) (g : GF) (t : FB) (src1 : FL) (g1 : GF) (t1 : FB) (e : FE) : FN := fun ss => (src ss).bind fun ds s1 =>
  match comp2F vs vs1 g t src1 g1 t1 e ds (wipeS s1 vs) with
    | some (xs, s2) => if xs.length ≤ sizeLine then .ok (.lst xs) (backS vs s1 s2) else .no
    | none => .no
theorem wipe_sub {σ τ : St} {vs vs1 : List Nat} (hv : ∀ i ∈ vs1, i ∈ vs) (h : L2.wipe σ vs1 = L2.wipe τ vs1) : L2.wipe σ vs = L2.wipe τ vs := by
  have hl : σ.length = τ.length := by
    have := congrArg List.length h
    rw [wipe_length, wipe_length] at this
    exact this
  apply List.ext_getElem?
  intro j
  rw [wipe_get, wipe_get, hl]
  by_cases hj : j ∈ vs
  · rw [if_pos hj, if_pos hj]
  · rw [if_neg hj, if_neg hj]
    have := congrArg (fun l => l[j]?) h
    simp only [wipe_get] at this
    rw [if_neg (fun z => hj (hv j z)), if_neg (fun z => hj (hv j z))] at this
    exact this
theorem lc2_read {vs vs1 : List Nat} {fl fl1 : FL} {gg gg1 : GF} {t t1 : FB} {e : FE} {σ : St} {H : Hp} {Q : VK} {K : Fg} (hv : ∀ i ∈ vs1, i ∈ vs) (q : tN K (nLc2 vs vs1 fl gg t fl1 gg1 t1 e) σ H Q) : tLc2 (iD K fl) (gD K gg vs) (tT K t) (iD K fl1) (gD K gg1 vs1) (tT K t1) (tD K e) vs vs1 σ H Q := by
  obtain ⟨fx, ss, o, s3, f, eq, k⟩ := q
  obtain ⟨ds, s1, e1, eq⟩ := bind_ok eq
  split at eq
  rotate_left
  · cases eq
  rename_i xs sE hcomp
  split at eq
  rotate_left
  · cases eq
  rename_i hsz
  cases eq
  refine ⟨fx, ss, ds, s1, f, e1, fun J H1 k1 f1 w Dl hD => ?_⟩
  have fw : FR K fx (wipeS s1 vs) (L2.wipe σ vs) H1 := f1.wipe vs
  have nw : NewAt fx (wipeS s1 vs) (L2.wipe σ vs) Dl := fw.newAt hD
  refine ⟨fun i m H2 => m = ds.length - i ∧ i ≤ ds.length ∧ Kp H1 H2 ∧ ∃ ssi dn accV rest, FR K fx ssi (L2.wipe σ vs) H2 ∧ (∀ (j : Nat) (s : Sl) (o : O), ssi[j]? = some s → s.obj = some o → ∃ t u, (wipeS s1 vs)[j]? = some t ∧ t.obj = some u) ∧
      H2 Dl = some (.lst accV) ∧ RepAll K H2 accV dn ∧ comp2F vs vs1 gg t fl1 gg1 t1 e (ds.drop i) ssi = some (rest, sE) ∧ dn ++ rest = xs,
    ⟨ds.length, by omega, Nat.zero_le _, .same (same_new hD), wipeS s1 vs, [], [], xs, fw.new hD, fun j s o a b => ⟨s, o, a, b⟩, upd_same, .nil, hcomp, rfl⟩, fun i m H2 ⟨em, hle, k2, ssi, dn, accV, rest, f2, old, hDl, ra, hc2, hx⟩ => ?_⟩
  have nr : ∀ (j : Nat) (s : Sl) (o : O), ssi[j]? = some s → s.obj = some o → (L2.wipe σ vs)[j]? ≠ some (some (.ref Dl)) := fun j s o a b => by
    obtain ⟨t', u, c, d⟩ := old j s o a b
    exact nw.2 j t' u c d
  have wi := w i H2 k2
  by_cases hlt : i < ds.length
  · have ed : ds.drop i = ds[i] :: ds.drop (i + 1) := List.drop_eq_getElem_cons hlt
    rw [ed] at hc2
    unfold comp2F at hc2
    split at hc2
    · cases hc2
    rename_i oo sN hturn
    split at hc2
    · cases hc2
    rename_i xs' sE' hrest
    cases hc2
    obtain ⟨go, yl⟩ := wi.1 ds[i] (List.getElem?_eq_getElem hlt)
    refine .inr ⟨go, fun H5 => Kp H1 H5 ∧ ∃ ssi dn accV rest, FR K fx ssi (L2.wipe σ vs) H5 ∧ (∀ (j : Nat) (s : Sl) (o : O), ssi[j]? = some s → s.obj = some o → ∃ t u, (wipeS s1 vs)[j]? = some t ∧ t.obj = some u) ∧
      H5 Dl = some (.lst accV) ∧ RepAll K H5 accV dn ∧ comp2F vs vs1 gg t fl1 gg1 t1 e (ds.drop (i + 1)) ssi = some (rest, sE) ∧ dn ++ rest = xs, fun H5 ⟨a, b⟩ => ⟨ds.length - (i + 1), by omega, rfl, hlt, a, b⟩, fun x H3 hy => ?_⟩
    obtain ⟨sm, rp⟩ := yl x H3 hy
    have f3 := f2.same sm
    have fl3 := f3.lend
    have hD3 : H3 Dl = some (.lst accV) := sm _ _ hDl
    have keepD : ∀ (s : SS) (τ : St) (H4 : Hp), FR K (fxr ssi (L2.wipe σ vs) H3) s τ H4 → H4 Dl = some (.lst accV) := fun s τ H4 g => g.rest Dl _ hD3 fun j z => by
      obtain ⟨s', o', a, b, c⟩ := fxr_some z
      exact nr j s' o' a b c
    unfold turn2F at hturn
    cases eg : gg ds[i] (lend ssi) with
    | none => rw [eg] at hturn; cases hturn
    | some s4 =>
      rw [eg] at hturn
      simp only at hturn
      refine ⟨_, lend ssi, ds[i], s4, fl3, rp, eg, fun σ2 H4 wq0 k4 f4 => ?_⟩
      have wq := wq0.trans wipe_wipe
      refine ⟨wq, ?_⟩
      cases et : t s4 with
      | no => rw [et] at hturn; cases hturn
      | ok b s5 =>
        rw [et] at hturn
        refine ⟨_, s4, b, s5, f4, et, fun H5 k5 f5 => ?_⟩
        have kk : Kp H2 H5 := (Kp.same sm).trans (k4.trans k5)
        cases b with
        | false =>
          simp only [Option.some.injEq, Prod.mk.injEq] at hturn
          obtain ⟨rfl, rfl⟩ := hturn
          refine iteF ⟨k2.trans kk, _, dn, accV, xs', ?_, fun j s o a b => ?_, keepD _ _ _ f5, ra.kp kk, hrest, hx⟩
          · have g5 := f5.wipe vs
            rw [wq] at g5
            exact f3.unlend g5 (k4.trans k5)
          · obtain ⟨t', u, c, d⟩ := unlend_old a b
            exact old j t' u c d
        | true =>
          simp only at hturn
          cases e4 : fl1 s5 with
          | no => rw [e4] at hturn; cases hturn
          | ok ds1 s6 =>
            rw [e4] at hturn
            simp only at hturn
            cases e5 : compF vs1 gg1 t1 e ds1 (wipeS (unlend ssi s6) vs1) with
            | none => rw [e5] at hturn; cases hturn
            | some pr =>
              obtain ⟨xs1, sE1⟩ := pr
              rw [e5] at hturn
              simp only [Option.some.injEq, Prod.mk.injEq] at hturn
              obtain ⟨rfl, rfl⟩ := hturn
              refine iteT ⟨_, s5, ds1, s6, f5, e4, fun J1 H6 k6 f6 w1 => ?_⟩
              have k36 : Kp H3 H6 := (k4.trans k5).trans k6
              have kall : Kp H2 H6 := (Kp.same sm).trans k36
              have l2 : σ2.length = (L2.wipe σ vs).length := by
                have := congrArg List.length wq
                rw [wipe_length, wipe_length] at this
                rw [wipe_length]
                exact this
              have fO := f3.unlend f6 k36 l2
              have fI := fO.wipe vs1
              have hD6 := keepD _ _ _ f6
              have hlen := congrArg List.length hx
              simp only [List.length_append] at hlen
              have oldO : ∀ (j : Nat) (s : Sl) (o : O), (unlend ssi s6)[j]? = some s → s.obj = some o → ∃ t u, ssi[j]? = some t ∧ t.obj = some u := fun j s o a b => unlend_old a b
              have nI : NewAt fx (wipeS (unlend ssi s6) vs1) (L2.wipe σ2 vs1) Dl := by
                refine ⟨nw.1, fun j s o a b z => ?_⟩
                have a' := wipeS_old a b
                obtain ⟨t', u, c, d⟩ := unlend_old a' b
                refine nr j t' u c d ?_
                obtain ⟨t2, u2, a2, b2, e2⟩ := unlend_get a'
                rw [e2] at b
                obtain ⟨e3, _⟩ := unlend_obj b
                rw [e3] at b2
                obtain ⟨p, p1, _, p3⟩ := f6.slot j _ b2
                obtain ⟨_, _, _, _, z2⟩ := fxr_some p3
                have z3 : σ2[j]? = some (some (.ref Dl)) := by
                  rw [wipe_get] at z
                  split at z
                  · split at z <;> cases z
                  · exact z
                rw [p1] at z3
                cases z3
                exact z2
              refine loop_read (R := fun H7 => Kp H1 H7 ∧ ∃ ssi dn accV rest, FR K fx ssi (L2.wipe σ vs) H7 ∧ (∀ (j : Nat) (s : Sl) (o : O), ssi[j]? = some s → s.obj = some o → ∃ t u, (wipeS s1 vs)[j]? = some t ∧ t.obj = some u) ∧
      H7 Dl = some (.lst accV) ∧ RepAll K H7 accV dn ∧ comp2F vs vs1 gg t fl1 gg1 t1 e (ds.drop (i + 1)) ssi = some (rest, sE) ∧ dn ++ rest = xs) w1 fI nI hD6 (ra.kp kall) e5 (by rw [← ra.len] at hlen ⊢; omega) fun H7 a1 k7 f7 old7 hD7 ra7 => ?_
              refine ⟨(k2.trans kall).trans k7, wipeS sE1 vs, dn ++ xs1, a1, xs', ?_, fun j s o a b => ?_, hD7, ra7, hrest, by rw [List.append_assoc]; exact hx⟩
              · have g := f7.wipe vs
                rw [wipe_sub hv wipe_wipe, wq] at g
                exact g
              · obtain ⟨t', u, c, d⟩ := old7 j s o (wipeS_old a b) b
                obtain ⟨t2, u2, c2, d2⟩ := oldO j t' u (wipeS_old c d) d
                exact old j t2 u2 c2 d2
  · have ed : ds.drop i = [] := List.drop_eq_nil_of_le (by omega)
    rw [ed] at hc2
    unfold comp2F at hc2
    cases hc2
    rw [List.append_nil] at hx
    subst hx
    exact .inl ⟨wi.2 (by omega), k Dl H2 (k1.trans k2) (f1.back k2 f2) ⟨accV, hDl, ra⟩ (back_new nw.1 nr)⟩
variable {elt tg iter : Expr} {ifs : List Expr} {scope : Scope} {own : List (Str × Nat)} {pos : Pos} {fl : FL} {gg : GF} {t : FB} {e : FE} {vs : List Nat}
/-- [elt for tg in iter if ..] -/
theorem xlc (own : List (Str × Nat)) (hN : X.N.Nodup) (hi : PI X tg iter (iD X.F fl)) (ok : blkC X.N X.env.scope scope own = true)
    (hg : ∀ (s : Shared) (H : Hp) (C : Addr) (cl : List (Str × Addr)) (fp : List Addr), PG (X.blk s H scope (compEnvC scope cl C X.env) fp) tg (gD X.F gg (own.map (·.2)))) (ht : ∀ (s : Shared) (H : Hp) (C : Addr) (cl : List (Str × Addr)) (fp : List Addr), PTs (X.blk s H scope (compEnvC scope cl C X.env) fp) ifs (tT X.F t))
    (he : ∀ (s : Shared) (H : Hp) (C : Addr) (cl : List (Str × Addr)) (fp : List Addr), PE (X.blk s H scope (compEnvC scope cl C X.env) fp) elt (tD X.F e)) (hc : X.calm = true := by rfl) (hs : ∀ x, foldedSetIterable iter X.env x = pure x := by intro _; rfl) :
    PE X (.ListComp elt [⟨tg, iter, ifs, 0⟩] scope pos) (tN X.F (nLc (own.map (·.2)) fl gg t e)) :=
  (pe_lc hc hN hi (blkOk_by ok) hg ht he hs).imp fun σ H Q q => lc_read q
/-- name = [..] on one line: the reading of the store -/
theorem xsetLc (i : Nat) {y : Str} {py spos : Pos} (own : List (Str × Nat)) (hN : X.N.Nodup) (hi : PI X tg iter (iD X.F fl)) (ok : blkC X.N X.env.scope scope own = true)
    (hg : ∀ (s : Shared) (H : Hp) (C : Addr) (cl : List (Str × Addr)) (fp : List Addr), PG (X.blk s H scope (compEnvC scope cl C X.env) fp) tg (gD X.F gg (own.map (·.2)))) (ht : ∀ (s : Shared) (H : Hp) (C : Addr) (cl : List (Str × Addr)) (fp : List Addr), PTs (X.blk s H scope (compEnvC scope cl C X.env) fp) ifs (tT X.F t))
    (he : ∀ (s : Shared) (H : Hp) (C : Addr) (cl : List (Str × Addr)) (fp : List Addr), PE (X.blk s H scope (compEnvC scope cl C X.env) fp) elt (tD X.F e))
    (hsw : swapsWith (.ListComp elt [⟨tg, iter, ifs, 0⟩] scope pos) (some (.Name y py)) spos.line X.env = pure true) (hy : X.N[i]? = some y := by rfl) (hyl : X.env.scope.names.lookup y = some .local := by rfl) (hc : X.calm = true := by rfl) (hs : ∀ x, foldedSetIterable iter X.env x = pure x := by intro _; rfl) :
    PS X (.Assign [.Name y py] (.ListComp elt [⟨tg, iter, ifs, 0⟩] scope pos) spos) (tAsg (tN X.F (nLc (own.map (·.2)) fl gg t e)) (gName i)) :=
  (ps_setLc hc hN hy hyl hsw hi (blkOk_by ok) hg ht he hs).imp fun E σ H q => lc_read q
/-- [elt for tg in iter if .. for tg1 in iter1 if ..] -/
theorem xlc2 {tg1 iter1 : Expr} {ifs1 : List Expr} {vs1 : List Nat} {fl1 : FL} {gg1 : GF} {t1 : FB} (own : List (Str × Nat)) (hN : X.N.Nodup) (hi : PI X tg iter (iD X.F fl)) (ok : blkC X.N X.env.scope scope own = true) (hv : ∀ i ∈ vs1, i ∈ own.map (·.2))
    (hg : ∀ (s : Shared) (H : Hp) (C : Addr) (cl : List (Str × Addr)) (fp : List Addr), PG (X.blk s H scope (compEnvC scope cl C X.env) fp) tg (gD X.F gg (own.map (·.2)))) (ht : ∀ (s : Shared) (H : Hp) (C : Addr) (cl : List (Str × Addr)) (fp : List Addr), PTs (X.blk s H scope (compEnvC scope cl C X.env) fp) ifs (tT X.F t))
    (hi1 : ∀ (s : Shared) (H : Hp) (C : Addr) (cl : List (Str × Addr)) (fp : List Addr), PI (X.blk s H scope (compEnvC scope cl C X.env) fp) tg1 iter1 (iD X.F fl1))
    (hg1 : ∀ (s : Shared) (H : Hp) (C : Addr) (cl : List (Str × Addr)) (fp : List Addr), PG (X.blk s H scope (compEnvC scope cl C X.env) fp) tg1 (gD X.F gg1 vs1)) (ht1 : ∀ (s : Shared) (H : Hp) (C : Addr) (cl : List (Str × Addr)) (fp : List Addr), PTs (X.blk s H scope (compEnvC scope cl C X.env) fp) ifs1 (tT X.F t1))
    (he : ∀ (s : Shared) (H : Hp) (C : Addr) (cl : List (Str × Addr)) (fp : List Addr), PE (X.blk s H scope (compEnvC scope cl C X.env) fp) elt (tD X.F e)) (hc : X.calm = true := by rfl) (hs : ∀ x, foldedSetIterable iter X.env x = pure x := by intro _; rfl) (hs1 : ∀ env x, foldedSetIterable iter1 env x = pure x := by intro _ _; rfl) :
    PE X (.ListComp elt [⟨tg, iter, ifs, 0⟩, ⟨tg1, iter1, ifs1, 0⟩] scope pos) (tN X.F (nLc2 (own.map (·.2)) vs1 fl gg t fl1 gg1 t1 e)) :=
  (pe_lc2 hc hN hi (blkOk_by ok) hv hg ht hi1 hg1 ht1 he hs hs1).imp fun σ H Q q => lc2_read hv q
theorem xsetLc2 (i : Nat) {y : Str} {py spos : Pos} {tg1 iter1 : Expr} {ifs1 : List Expr} {vs1 : List Nat} {fl1 : FL} {gg1 : GF} {t1 : FB} (own : List (Str × Nat)) (hN : X.N.Nodup) (hi : PI X tg iter (iD X.F fl)) (ok : blkC X.N X.env.scope scope own = true) (hv : ∀ i ∈ vs1, i ∈ own.map (·.2))
    (hg : ∀ (s : Shared) (H : Hp) (C : Addr) (cl : List (Str × Addr)) (fp : List Addr), PG (X.blk s H scope (compEnvC scope cl C X.env) fp) tg (gD X.F gg (own.map (·.2)))) (ht : ∀ (s : Shared) (H : Hp) (C : Addr) (cl : List (Str × Addr)) (fp : List Addr), PTs (X.blk s H scope (compEnvC scope cl C X.env) fp) ifs (tT X.F t))
    (hi1 : ∀ (s : Shared) (H : Hp) (C : Addr) (cl : List (Str × Addr)) (fp : List Addr), PI (X.blk s H scope (compEnvC scope cl C X.env) fp) tg1 iter1 (iD X.F fl1))
    (hg1 : ∀ (s : Shared) (H : Hp) (C : Addr) (cl : List (Str × Addr)) (fp : List Addr), PG (X.blk s H scope (compEnvC scope cl C X.env) fp) tg1 (gD X.F gg1 vs1)) (ht1 : ∀ (s : Shared) (H : Hp) (C : Addr) (cl : List (Str × Addr)) (fp : List Addr), PTs (X.blk s H scope (compEnvC scope cl C X.env) fp) ifs1 (tT X.F t1))
    (he : ∀ (s : Shared) (H : Hp) (C : Addr) (cl : List (Str × Addr)) (fp : List Addr), PE (X.blk s H scope (compEnvC scope cl C X.env) fp) elt (tD X.F e))
    (hsw : swapsWith (.ListComp elt [⟨tg, iter, ifs, 0⟩, ⟨tg1, iter1, ifs1, 0⟩] scope pos) (some (.Name y py)) spos.line X.env = pure true) (hy : X.N[i]? = some y := by rfl) (hyl : X.env.scope.names.lookup y = some .local := by rfl) (hc : X.calm = true := by rfl) (hs : ∀ x, foldedSetIterable iter X.env x = pure x := by intro _; rfl) (hs1 : ∀ env x, foldedSetIterable iter1 env x = pure x := by intro _ _; rfl) :
    PS X (.Assign [.Name y py] (.ListComp elt [⟨tg, iter, ifs, 0⟩, ⟨tg1, iter1, ifs1, 0⟩] scope pos) spos) (tAsg (tN X.F (nLc2 (own.map (·.2)) vs1 fl gg t fl1 gg1 t1 e)) (gName i)) :=
  (ps_setLc2 hc hN hy hyl hsw hi (blkOk_by ok) hv hg ht hi1 hg1 ht1 he hs hs1).imp fun E σ H q => lc2_read hv q
theorem _root_.L2.Inv.slen {pins : List (Addr × Obj)} {σ : St} {H : Hp} {s : Shared} (I : Inv X pins σ H s) : σ.length = X.N.length := I.len
/-! ### what is walked -/
theorem _root_.L2.PI.imp {tg iter : Expr} {wi wi' : TI} (h : PI X tg iter wi) (w : ∀ σ H R, wi' σ H R → wi σ H R) : PI X tg iter wi' := ⟨fun pins s σ H R I q => h.run pins s σ H R I (w σ H R q)⟩
theorem PI.orR {tg iter : Expr} {w1 w2 : TI} (h1 : PI X tg iter w1) (h2 : PI X tg iter w2) : PI X tg iter (fun σ H R => w1 σ H R ∨ w2 σ H R) := ⟨fun pins s σ H R I q => q.elim (h1.run pins s σ H R I) (h2.run pins s σ H R I)⟩
/-- the items of a list, a tuple, the signs of a text -/
def itemsOf : D → Option (List D)
  | .list ds => some ds
  | .tuple ds => some ds
  | .str x => some (x.cps.toList.map fun c => .str ⟨#[c]⟩)
  | d => match kvsOf d with
    | some (false, kvs) => some (kvs.map (·.1))
    | _ => none
def lSeq (f : FE) : FL := fun ss => (f ss).bind fun d s1 => .of (itemsOf d) s1
theorem walk_l {K : Fg} {a : Addr} {xs : List V} {ds : List D} {H : Hp} (h : LstF K H a xs) (r : RepAll K H xs ds) : Walk K (Itl K a) ds H := fun i H' k => by
  have h' := (h.kp k).sq
  have r' := r.kp k
  refine ⟨fun d e => ?_, fun hl => ⟨xs, h', by rw [r'.len]; exact hl⟩⟩
  obtain ⟨v, e1, rv⟩ := r'.get e
  exact ⟨⟨xs, v, h', e1⟩, fun x H2 hy => by
    obtain ⟨rfl, hx⟩ := hy
    have := hx xs h'
    rw [e1] at this
    cases this
    exact ⟨Same.refl _, rv⟩⟩
theorem walk_t {K : Fg} {a : Addr} {xs : List V} {ds : List D} {H : Hp} (h : SqT K H a xs) (r : RepAll K H xs ds) : Walk K (Itt K a) ds H := fun i H' k => by
  have h' := sqT_kp k h
  have r' := r.kp k
  refine ⟨fun d e => ?_, fun hl => ⟨xs, h', by rw [r'.len]; exact hl⟩⟩
  obtain ⟨v, e1, rv⟩ := r'.get e
  exact ⟨⟨xs, v, h', e1⟩, fun x H2 hy => by
    obtain ⟨rfl, hx⟩ := hy
    have := hx xs h'
    rw [e1] at this
    cases this
    exact ⟨Same.refl _, rv⟩⟩
theorem Rep.dkv {K : Fg} {H : Hp} {v : V} {d : D} {kvs : List (D × D)} (h : Rep K H v d) (e : kvsOf d = some (false, kvs)) : ∃ a o kv0 ds, v = .ref a ∧ H a = some (.frz o (.dK kv0)) ∧ RepAll K H (kv0.map (·.2)) ds ∧ kvs = (kv0.map fun p => keyD p.1).zip ds := by
  cases h with
  | dK h r => rw [kvsOf_dK] at e; cases e; exact ⟨_, _, _, _, rfl, h, r, rfl⟩
  | dN h c q r => cases e
  | ins h c r => cases e
  | fn h => cases e
  | _ => cases e
theorem keyD_rep {K : Fg} {H : Hp} (k : Key) : Rep K H (kV k) (keyD k) := by
  cases k with
  | inl i => exact .int i
  | inr x => exact .str x
theorem zip_fst {kv0 : List (Key × V)} {ds : List D} (h : ds.length = kv0.length) : ((kv0.map fun p => keyD p.1).zip ds).map (·.1) = kv0.map fun p => keyD p.1 := List.map_fst_zip (by rw [List.length_map]; omega)
theorem zip_snd {kv0 : List (Key × V)} {ds : List D} (h : ds.length = kv0.length) : ((kv0.map fun p => keyD p.1).zip ds).map (·.2) = ds := List.map_snd_zip (by rw [List.length_map]; omega)
/-- the keys of a dict -/
theorem walk_k {K : Fg} {a : Addr} {o : Obj} {kv0 : List (Key × V)} {ds : List D} {H : Hp} (h : H a = some (.frz o (.dK kv0))) (r : RepAll K H (kv0.map (·.2)) ds) : Walk K (Itk a o kv0) (((kv0.map fun p => keyD p.1).zip ds).map (·.1)) H := fun i H' k => by
  have hl : ds.length = kv0.length := by rw [← r.len, List.length_map]
  have h' := k.frz _ _ _ h
  rw [zip_fst hl]
  refine ⟨fun d e => ?_, fun hn => ⟨h', by rw [List.length_map] at hn; exact hn⟩⟩
  rw [List.getElem?_map] at e
  obtain ⟨p, e1, rfl⟩ := Option.map_eq_some_iff.mp e
  refine ⟨⟨h', (List.getElem?_eq_some_iff.mp e1).1⟩, fun x H2 hy => ?_⟩
  obtain ⟨rfl, k', v', q1, rfl⟩ := hy
  rw [e1] at q1
  cases q1
  exact ⟨Same.refl _, keyD_rep _⟩
/-- its values -/
theorem walk_v {K : Fg} {a : Addr} {o : Obj} {kv0 : List (Key × V)} {ds : List D} {H : Hp} (h : H a = some (.frz o (.dK kv0))) (r : RepAll K H (kv0.map (·.2)) ds) : Walk K (Itd a o kv0) (((kv0.map fun p => keyD p.1).zip ds).map (·.2)) H := fun i H' k => by
  have hl : ds.length = kv0.length := by rw [← r.len, List.length_map]
  have h' := k.frz _ _ _ h
  have r' := r.kp k
  rw [zip_snd hl]
  refine ⟨fun d e => ?_, fun hn => ⟨h', by omega⟩⟩
  obtain ⟨v, e1, rv⟩ := r'.get e
  rw [List.getElem?_map] at e1
  obtain ⟨p, e2, rfl⟩ := Option.map_eq_some_iff.mp e1
  refine ⟨⟨h', (List.getElem?_eq_some_iff.mp e2).1⟩, fun x H2 hy => ?_⟩
  obtain ⟨rfl, k', q1⟩ := hy
  rw [e2] at q1
  cases q1
  exact ⟨Same.refl _, rv⟩
def pairD (p : D × D) : D := .tuple [p.1, p.2]
/-- its pairs -/
theorem walk_i {K : Fg} {a : Addr} {o : Obj} {kv0 : List (Key × V)} {ds : List D} {H : Hp} (h : H a = some (.frz o (.dK kv0))) (r : RepAll K H (kv0.map (·.2)) ds) : Walk K (Iti a o kv0) (((kv0.map fun p => keyD p.1).zip ds).map pairD) H := fun i H' k => by
  have hl : ds.length = kv0.length := by rw [← r.len, List.length_map]
  have h' := k.frz _ _ _ h
  have r' := r.kp k
  refine ⟨fun d e => ?_, fun hn => ⟨h', by rw [List.length_map, List.length_zip, List.length_map] at hn; omega⟩⟩
  rw [List.getElem?_map] at e
  obtain ⟨q, e1, rfl⟩ := Option.map_eq_some_iff.mp e
  obtain ⟨e2, e3⟩ := List.getElem?_zip_eq_some.mp e1
  obtain ⟨v, e4, rv⟩ := r'.get e3
  rw [List.getElem?_map] at e2 e4
  obtain ⟨p, e5, e6⟩ := Option.map_eq_some_iff.mp e4
  rw [e5] at e2
  refine ⟨⟨h', (List.getElem?_eq_some_iff.mp e5).1⟩, fun x H2 hy => ?_⟩
  obtain ⟨T, k', v', q1, rfl, q2, rfl⟩ := hy
  rw [e5] at q1
  cases q1
  have sm : Same H' (upd H' T (.tup [kV k', v'])) := same_new q2
  have ek : q.1 = keyD k' := by
    have := Option.some.inj e2
    exact this.symm
  refine ⟨sm, .tup (.of upd_same) (.cons ?_ (.cons (by subst e6; exact rv.kp (.same sm)) .nil))⟩
  rw [ek]
  exact keyD_rep _
theorem walk_s {K : Fg} {x : Str} {H : Hp} : Walk K (Its x) (x.cps.toList.map fun c => PyData.str ⟨#[c]⟩) H := fun i H' k => by
  refine ⟨fun d e => ?_, fun hl => ?_⟩
  · rw [List.getElem?_map] at e
    obtain ⟨c, e1, rfl⟩ := Option.map_eq_some_iff.mp e
    have e2 : x.cps[i]? = some c := by rw [← Array.getElem?_toList]; exact e1
    refine ⟨(Array.getElem?_eq_some_iff.mp e2).1, fun v H2 hy => ?_⟩
    obtain ⟨rfl, c', hc, rfl⟩ := hy
    rw [e2] at hc
    cases hc
    exact ⟨Same.refl _, .str _⟩
  · rw [List.length_map, Array.length_toList] at hl
    exact hl
variable {f : FE}
theorem iseq (h : PE X iter (tD X.F f)) : PI X tg iter (iD X.F (lSeq f)) := by
  refine (PI.orR (pi_list h) (PI.orR (pi_tup h) (PI.orR (pi_str h) (pi_keys h)))).imp fun σ H R q => ?_
  obtain ⟨fx, ss, ds, s2, fr, e, k⟩ := q
  obtain ⟨d, s1, e1, e⟩ := bind_ok e
  obtain ⟨eg, rfl⟩ := of_ok e
  unfold itemsOf at eg
  split at eg
  · cases eg
    refine .inl ⟨fx, ss, _, _, fr, e1, fun v H1 k1 f1 r1 => ?_⟩
    obtain ⟨a, xs, rfl, h1, r2⟩ := r1.lstv
    exact ⟨a, rfl, ⟨xs, h1.sq⟩, k _ _ k1 f1 (walk_l h1 r2)⟩
  · cases eg
    refine .inr (.inl ⟨fx, ss, _, _, fr, e1, fun v H1 k1 f1 r1 => ?_⟩)
    obtain ⟨a, xs, rfl, h1, r2⟩ := r1.tupv
    exact ⟨a, rfl, ⟨xs, h1⟩, k _ _ k1 f1 (walk_t h1 r2)⟩
  · cases eg
    refine .inr (.inr (.inl ⟨fx, ss, _, _, fr, e1, fun v H1 k1 f1 r1 => ?_⟩))
    obtain rfl := r1.strv
    exact ⟨_, rfl, k _ _ k1 f1 walk_s⟩
  · split at eg
    · rename_i kvs he
      cases eg
      refine .inr (.inr (.inr ⟨fx, ss, _, _, fr, e1, fun v H1 k1 f1 r1 => ?_⟩))
      obtain ⟨a, o, kv0, ds, rfl, h1, r2, rfl⟩ := r1.dkv he
      exact ⟨a, o, rfl, .inl ⟨kv0, h1, k _ _ k1 f1 (walk_k h1 r2)⟩⟩
    · cases eg
/-- d.items(), d.values() -/
def lItems (f : FE) : FL := fun ss => (f ss).bind fun d s1 => match kvsOf d with
  | some (false, kvs) => .ok (kvs.map pairD) s1
  | _ => .no
def lVals (f : FE) : FL := fun ss => (f ss).bind fun d s1 => match kvsOf d with
  | some (false, kvs) => .ok (kvs.map (·.2)) s1
  | _ => .no
theorem items_read {σ : St} {H : Hp} {R : It → Hp → Prop} (q : iD X.F (lItems f) σ H R) : iItems (tD X.F f) σ H R := by
  obtain ⟨fx, ss, ds, s2, fr, e, k⟩ := q
  obtain ⟨d, s1, e1, e⟩ := bind_ok e
  split at e
  · rename_i kvs he
    cases e
    refine ⟨fx, ss, _, _, fr, e1, fun v H1 k1 f1 r1 => ?_⟩
    obtain ⟨a, o, kv0, ds, rfl, h1, r2, rfl⟩ := r1.dkv he
    exact ⟨a, o, kv0, rfl, h1, k _ _ k1 f1 (walk_i h1 r2)⟩
  · cases e
theorem vals_read {σ : St} {H : Hp} {R : It → Hp → Prop} (q : iD X.F (lVals f) σ H R) : iVals (tD X.F f) σ H R := by
  obtain ⟨fx, ss, ds, s2, fr, e, k⟩ := q
  obtain ⟨d, s1, e1, e⟩ := bind_ok e
  split at e
  · rename_i kvs he
    cases e
    refine ⟨fx, ss, _, _, fr, e1, fun v H1 k1 f1 r1 => ?_⟩
    obtain ⟨a, o, kv0, ds, rfl, h1, r2, rfl⟩ := r1.dkv he
    exact ⟨a, o, kv0, rfl, h1, k _ _ k1 f1 (walk_v h1 r2)⟩
  · cases e
theorem iitems {e : Expr} {elts : List Expr} {kk : Nat} {tpos apos cpos : Pos} (he : PE X e (tD X.F f)) (hbase : attributeBase e "items" X.env (eval e X.env) = eval e X.env := by rfl) (hline : (apos.endLine == cpos.line) = true := by rfl) :
    PI X (.Tuple elts kk tpos) (.Call (.Attribute e "items" apos) [] [] cpos) (iD X.F (lItems f)) := (pi_items he hbase hline).imp fun _ _ _ q => items_read q
theorem ivals {e tg : Expr} {apos cpos : Pos} (he : PE X e (tD X.F f)) (hbase : attributeBase e "values" X.env (eval e X.env) = eval e X.env := by rfl) (hline : (apos.endLine == cpos.line) = true := by rfl) :
    PI X tg (.Call (.Attribute e "values" apos) [] [] cpos) (iD X.F (lVals f)) := (pi_values he hbase hline).imp fun _ _ _ q => vals_read q
/-- range -/
def rangeD (lo : Int) (n : Nat) : List D := (List.range n).map fun (i : Nat) => PyData.int (lo + (i : Int))
theorem walk_r {K : Fg} {lo : Int} {n : Nat} {H : Hp} : Walk K (Itr lo n) (rangeD lo n) H := fun i H' k => by
  unfold rangeD
  refine ⟨fun d e => ?_, fun hl => ?_⟩
  · rw [List.getElem?_map] at e
    obtain ⟨c, e1, rfl⟩ := Option.map_eq_some_iff.mp e
    obtain ⟨h1, h2⟩ := List.getElem?_eq_some_iff.mp e1
    rw [List.length_range] at h1
    rw [List.getElem_range] at h2
    subst h2
    refine ⟨h1, fun v H2 hy => ?_⟩
    obtain ⟨rfl, rfl⟩ := hy
    exact ⟨Same.refl _, .int _⟩
  · rw [List.length_map, List.length_range] at hl
    exact hl
def small (j : Int) : Bool := decide (-(2 ^ 62) ≤ j) && decide (j < 2 ^ 62)
theorem small_of {j : Int} (h : small j = true) : -(2 ^ 62) ≤ j ∧ j < 2 ^ 62 := by
  unfold small at h
  simpa using h
def lRng1 (f : FL) : FL := fun ss => (f ss).bind fun d s1 => match d with
  | [.int j] => if small j = true then .ok (rangeD 0 j.toNat) s1 else .no
  | _ => .no
def lRng2 (f : FL) : FL := fun ss => (f ss).bind fun d s1 => match d with
  | [.int i, .int j] => if small i = true ∧ small j = true then .ok (rangeD i (j - i).toNat) s1 else .no
  | _ => .no
variable {a b : Expr} {p : Pos}
theorem irng1 (hm : X.mg "range" = none) (ha : PA X [a] (tL X.F fl)) (hg : Gl X "range" := by rfl) (hs : starEach [a] X.env = [(false, eval a X.env)] := by rfl) : PI X tg (.Call (.Name "range" p) [a] [] pos) (iD X.F (lRng1 fl)) := by
  refine (pi_range1 hg hm ha hs).imp fun σ H R q => ?_
  obtain ⟨fx, ss, ds, s2, fr, e, k⟩ := q
  obtain ⟨d, s1, e1, e⟩ := bind_ok e
  refine ⟨fx, ss, d, s1, fr, e1, fun vs H1 k1 f1 r1 => ?_⟩
  split at e
  · split at e
    · rename_i j hj
      cases e
      obtain ⟨v, rfl, rv⟩ := r1.one
      obtain rfl := rv.intv
      exact ⟨j, rfl, (small_of hj).1, (small_of hj).2, k _ _ k1 f1 walk_r⟩
    · cases e
  · cases e
theorem irng2 (hm : X.mg "range" = none) (ha : PA X [a, b] (tL X.F fl)) (hg : Gl X "range" := by rfl) (hs : starEach [a, b] X.env = [(false, eval a X.env), (false, eval b X.env)] := by rfl) (hs2 : starEach [b] X.env = [(false, eval b X.env)] := by rfl) : PI X tg (.Call (.Name "range" p) [a, b] [] pos) (iD X.F (lRng2 fl)) := by
  refine (pi_range2 hg hm ha hs hs2).imp fun σ H R q => ?_
  obtain ⟨fx, ss, ds, s2, fr, e, k⟩ := q
  obtain ⟨d, s1, e1, e⟩ := bind_ok e
  refine ⟨fx, ss, d, s1, fr, e1, fun vs H1 k1 f1 r1 => ?_⟩
  split at e
  · split at e
    · rename_i i j hj
      cases e
      obtain ⟨v, w, rfl, rv, rw_⟩ := r1.two
      obtain rfl := rv.intv
      obtain rfl := rw_.intv
      exact ⟨i, j, rfl, ⟨(small_of hj.1).1, (small_of hj.1).2, (small_of hj.2).1, (small_of hj.2).2⟩, k _ _ k1 f1 walk_r⟩
    · cases e
  · cases e
/-- zip of two lists, of two tuples -/
def zipD (xs ys : List D) : List D := List.zipWith (fun x y => .tuple [x, y]) xs ys
def lZip (f : FL) : FL := fun ss => (f ss).bind fun d s1 => match d with
  | [.list xs, .list ys] => .ok (zipD xs ys) s1
  | [.tuple xs, .tuple ys] => .ok (zipD xs ys) s1
  | _ => .no
theorem zipD_get {xs ys : List D} {i : Nat} {d : D} (h : (zipD xs ys)[i]? = some d) : ∃ x y, xs[i]? = some x ∧ ys[i]? = some y ∧ d = .tuple [x, y] := by
  unfold zipD at h
  rw [List.getElem?_zipWith] at h
  split at h
  · rename_i x y a b
    exact ⟨x, y, a, b, (Option.some.inj h).symm⟩
  · cases h
theorem walk_z {K : Fg} {a b : Addr} {xs ys : List V} {ds es : List D} {H : Hp} (h : LstF K H a xs) (g : LstF K H b ys) (r : RepAll K H xs ds) (q : RepAll K H ys es) : Walk K (Itz K a b) (zipD ds es) H := fun i H' k => by
  have h' := (h.kp k).sq
  have g' := (g.kp k).sq
  have r' := r.kp k
  have q' := q.kp k
  refine ⟨fun d e => ?_, fun hl => ⟨xs, ys, h', g', ?_⟩⟩
  · obtain ⟨x, y, e1, e2, rfl⟩ := zipD_get e
    obtain ⟨v, e3, rv⟩ := r'.get e1
    obtain ⟨w, e4, rw_⟩ := q'.get e2
    refine ⟨⟨xs, ys, v, w, h', g', e3, e4⟩, fun z H2 hy => ?_⟩
    obtain ⟨T, v', w', rfl, hT, rfl, z1, z2⟩ := hy
    have e5 := z1 xs h'
    rw [e3] at e5
    cases e5
    have e6 := z2 ys g'
    rw [e4] at e6
    cases e6
    exact ⟨same_new hT, .tup (.of upd_same) ((RepAll.cons rv (.cons rw_ .nil)).kp (.same (same_new hT)))⟩
  · unfold zipD at hl
    rw [List.length_zipWith] at hl
    rw [r'.len, q'.len]
    omega
theorem walk_zt {K : Fg} {a b : Addr} {xs ys : List V} {ds es : List D} {H : Hp} (h : SqT K H a xs) (g : SqT K H b ys) (r : RepAll K H xs ds) (q : RepAll K H ys es) : Walk K (ItzT K a b) (zipD ds es) H := fun i H' k => by
  have h' := sqT_kp k h
  have g' := sqT_kp k g
  have r' := r.kp k
  have q' := q.kp k
  refine ⟨fun d e => ?_, fun hl => ⟨xs, ys, h', g', ?_⟩⟩
  · obtain ⟨x, y, e1, e2, rfl⟩ := zipD_get e
    obtain ⟨v, e3, rv⟩ := r'.get e1
    obtain ⟨w, e4, rw_⟩ := q'.get e2
    refine ⟨⟨xs, ys, v, w, h', g', e3, e4⟩, fun z H2 hy => ?_⟩
    obtain ⟨T, v', w', rfl, hT, rfl, z1, z2⟩ := hy
    have e5 := z1 xs h'
    rw [e3] at e5
    cases e5
    have e6 := z2 ys g'
    rw [e4] at e6
    cases e6
    exact ⟨same_new hT, .tup (.of upd_same) ((RepAll.cons rv (.cons rw_ .nil)).kp (.same (same_new hT)))⟩
  · unfold zipD at hl
    rw [List.length_zipWith] at hl
    rw [r'.len, q'.len]
    omega
variable {elts : List Expr} {kk : Nat} {tpos : Pos}
theorem izip (hm : X.mg "zip" = none) (ha : PA X [a, b] (tL X.F fl)) (hg : Gl X "zip" := by rfl) (hs : starEach [a, b] X.env = (false, eval a X.env) :: starEach [b] X.env := by rfl) (hpl : (backTo pos (starEach [b] X.env)).any (·.1) = false := by rfl) :
    PI X (.Tuple elts kk tpos) (.Call (.Name "zip" p) [a, b] [] pos) (iD X.F (lZip fl)) := by
  refine (pi_zipA hg hm ha hs hpl).imp fun σ H R q => ?_
  obtain ⟨fx, ss, ds, s2, fr, e, k⟩ := q
  obtain ⟨d, s1, e1, e⟩ := bind_ok e
  refine ⟨fx, ss, d, s1, fr, e1, fun vs H1 k1 f1 r1 => ?_⟩
  split at e
  · cases e
    obtain ⟨v, w, rfl, rv, rw_⟩ := r1.two
    obtain ⟨a1, xs, rfl, h1, q1⟩ := rv.lstv
    obtain ⟨a2, ys, rfl, h2, q2⟩ := rw_.lstv
    exact ⟨a1, a2, xs, ys, rfl, .inl ⟨h1.sq, h2.sq, k _ _ k1 f1 (walk_z h1 h2 q1 q2)⟩⟩
  · cases e
    obtain ⟨v, w, rfl, rv, rw_⟩ := r1.two
    obtain ⟨a1, xs, rfl, h1, q1⟩ := rv.tupv
    obtain ⟨a2, ys, rfl, h2, q2⟩ := rw_.tupv
    exact ⟨a1, a2, xs, ys, rfl, .inr ⟨h1, h2, k _ _ k1 f1 (walk_zt h1 h2 q1 q2)⟩⟩
  · cases e
/-- enumerate of a list -/
def enumD (xs : List D) : List D := List.zipWith (fun (i : Nat) x => .tuple [.int (i : Int), x]) (List.range xs.length) xs
def lEnum (f : FL) : FL := fun ss => (f ss).bind fun d s1 => match d with
  | [.list xs] => .ok (enumD xs) s1
  | _ => .no
theorem walk_e {K : Fg} {a : Addr} {xs : List V} {ds : List D} {H : Hp} (h : LstF K H a xs) (r : RepAll K H xs ds) : Walk K (Ite K a) (enumD ds) H := fun i H' k => by
  have h' := (h.kp k).sq
  have r' := r.kp k
  refine ⟨fun d e => ?_, fun hl => ⟨xs, h', ?_⟩⟩
  · unfold enumD at e
    rw [List.getElem?_zipWith] at e
    split at e
    · rename_i j x e1 e2
      cases e
      have hj : j = i := by
        obtain ⟨h1, h2⟩ := List.getElem?_eq_some_iff.mp e1
        rw [List.getElem_range] at h2
        exact h2.symm
      subst hj
      obtain ⟨v, e3, rv⟩ := r'.get e2
      refine ⟨⟨xs, v, h', e3⟩, fun z H2 hy => ?_⟩
      obtain ⟨T, v', rfl, hT, rfl, z1⟩ := hy
      have e5 := z1 xs h'
      rw [e3] at e5
      cases e5
      exact ⟨same_new hT, .tup (.of upd_same) ((RepAll.cons (.int _) (.cons rv .nil)).kp (.same (same_new hT)))⟩
    · cases e
  · unfold enumD at hl
    rw [List.length_zipWith, List.length_range] at hl
    rw [r'.len]
    omega
theorem ienum (hm : X.mg "enumerate" = none) (ha : PA X [a] (tL X.F fl)) (hg : Gl X "enumerate" := by rfl) (hs : starEach [a] X.env = [(false, eval a X.env)] := by rfl) :
    PI X (.Tuple elts kk tpos) (.Call (.Name "enumerate" p) [a] [] pos) (iD X.F (lEnum fl)) := by
  refine (pi_enum hg hm ha hs).imp fun σ H R q => ?_
  obtain ⟨fx, ss, ds, s2, fr, e, k⟩ := q
  obtain ⟨d, s1, e1, e⟩ := bind_ok e
  refine ⟨fx, ss, d, s1, fr, e1, fun vs H1 k1 f1 r1 => ?_⟩
  split at e
  · cases e
    obtain ⟨v, rfl, rv⟩ := r1.one
    obtain ⟨a1, xs, rfl, h1, q1⟩ := rv.lstv
    exact ⟨a1, xs, rfl, h1.sq, k _ _ k1 f1 (walk_e h1 q1)⟩
  · cases e
end
end Dt

/-! Dt8: objects of one's own: read, changed, locked. -/
namespace Dt
open PySem PySem.Spec L2
open PyProof.Rows hiding St
def objAt (ss : SS) (i : Nat) : Option O := (ss[i]?).bind Sl.obj
theorem objAt_some {ss : SS} {i : Nat} {o : O} (h : objAt ss i = some o) : ∃ s, ss[i]? = some s ∧ s.obj = some o := Option.bind_eq_some_iff.mp h
section
variable {X : Cx} {a b : Expr} {es : List Expr} {pos p : Pos} {f g : FE} {fl : FL} {x : Str}
/-- a name that holds data, or an object that is from now on data -/
def eVF (i : Nat) : FE := fun ss => match ss[i]? with
  | some (.imm d) => .ok d ss
  | some (.own o) => .ok o.toD (ss.set i (.imm o.toD))
  | _ => .no
theorem xvf (i : Nat) (hN : X.N[i]? = some x := by rfl) (hv : Vis X.env.scope x := by first | exact Or.inl rfl | exact Or.inr (Or.inl rfl) | exact Or.inr (Or.inr rfl)) (hd : (x == ("__debug__" : Str)) = false := by decide)
    (hcd : (x == ("__classdict__" : Str)) = false := by decide) : PE X (.Name x pos) (tD X.F (eVF i)) := by
  refine ⟨fun pins s σ H Q I q => ?_⟩
  obtain ⟨fx, ss, d, s3, fr, e, k⟩ := q
  unfold eVF at e
  split at e
  · rename_i d' e1
    cases e
    obtain ⟨v, h1, h2⟩ := fr.slot i _ e1
    exact (pe_var hN hv hd hcd).run pins s σ H Q I ⟨v, h1, k v H (Kp.refl H) fr h2⟩
  · rename_i o e1
    cases e
    obtain ⟨q, h1, h2, h3⟩ := fr.slot i _ e1
    refine thn ((pe_var hN hv hd hcd).run pins s σ H (fun v H' => v = .ref q ∧ H' = H) I ⟨_, h1, rfl, rfl⟩) fun u s2 z => ?_
    obtain ⟨v, H', I2, r, rfl, rfl⟩ := z
    obtain ⟨w, hw, lw, mw, rp⟩ := h2.loose
    obtain ⟨od, I3⟩ := I2.lock hw mw
    obtain ⟨f2, k2⟩ := fr.freeze (u := .frz od w) e1 h1 hw lw fun _ => rp od
    exact ⟨.ref q, _, I3, r, k _ _ k2 f2 (rp od)⟩
  · cases e
/-- xs.append(e) -/
def sApp (i : Nat) (f : FE) : FS := fun ss => match objAt ss i with
  | some (.lst _) => match f ss with
    | .ok d s1 => match s1[i]? with
      | some s => match s.obj with
        | some (.lst ds) => if ds.length < sizeLine then .nx (s1.set i (s.put (.lst (ds ++ [d])))) else .no
        | _ => .no
      | none => .no
    | .no => .no
  | _ => .no
theorem sapp (i : Nat) {st : Stmt} (h : PS X st (tDrop (tBM X.F "list" rAppend (tVar i) (tCons (tD X.F f) tNil)))) : PS X st (tS X.F (sApp i f)) := by
  refine h.imp fun E σ H q => ?_
  obtain ⟨fx, ss, fr, k⟩ := tS_iff.mp q
  unfold sApp at k
  split at k
  · rename_i ds0 ho
    obtain ⟨s0, e0, eo⟩ := objAt_some ho
    obtain ⟨q, h1, ⟨xs, h2, _⟩, _⟩ := (fr.slot i s0 e0).obj eo
    refine ⟨_, h1, .inl ⟨rfl, xs, .of h2⟩, ?_⟩
    split at k
    · rename_i d s1 e1
      split at k
      · rename_i s es_
        split at k
        · rename_i ds eo2
          split at k
          · rename_i hl
            refine ⟨fx, ss, d, s1, fr, e1, fun v H1 k1 f1 r1 => ?_⟩
            obtain ⟨q2, z1, ⟨ys, z2, z3⟩, _⟩ := (f1.slot i s es_).obj eo2
            rw [h1] at z1
            cases z1
            obtain ⟨f2, k2⟩ := f1.mut (o' := .lst (ds ++ [d])) (u := .lst (ys ++ [v])) es_ eo2 h1 fun kk => ⟨_, upd_same, (z3.append (.cons r1 .nil)).kp kk⟩
            exact ⟨q, ys, v, rfl, rfl, z2, by rw [z3.len]; exact hl, k _ _ (k1.trans k2) f2⟩
          · exact k.elim
        · exact k.elim
      · exact k.elim
    · exact k.elim
  · exact k.elim

/-- xs[e] = v, a list of one's own -/
def sSetL (i : Nat) (fi fv : FE) : FS := fun ss => match fv ss with
  | .no => .no
  | .ok d s1 => match objAt s1 i with
    | some (.lst _) => match fi s1 with
      | .ok (.int n) s2 => match s2[i]? with
        | some s => match s.obj with
          | some (.lst ds) => match ixN ds.length n with
            | some j => .nx (s2.set i (s.put (.lst (ds.set j d))))
            | none => .no
          | _ => .no
        | none => .no
      | _ => .no
    | _ => .no
theorem ssetL (i : Nat) {st : Stmt} {fi fv : FE} (h : PS X st (tAsg (tD X.F fv) (gSub (tVar i) (tD X.F fi) rSetL))) : PS X st (tS X.F (sSetL i fi fv)) := by
  refine h.imp fun E σ H q => ?_
  obtain ⟨fx, ss, fr, k⟩ := tS_iff.mp q
  unfold sSetL at k
  split at k
  · exact k.elim
  rename_i d s1 e1
  split at k
  rotate_left
  · exact k.elim
  rename_i ds0 ho
  split at k
  rotate_left
  · exact k.elim
  rename_i n s2 e2
  split at k
  rotate_left
  · exact k.elim
  rename_i s es_
  split at k
  rotate_left
  · exact k.elim
  rename_i ds eo2
  split at k
  rotate_left
  · exact k.elim
  rename_i j hj
  refine ⟨fx, ss, d, s1, fr, e1, fun v H1 k1 f1 r1 => ?_⟩
  obtain ⟨s0, e0, eo⟩ := objAt_some ho
  obtain ⟨q, h1, _, _⟩ := (f1.slot i s0 e0).obj eo
  refine ⟨_, h1, fx, s1, _, s2, f1, e2, fun w H2 k2 f2 r2 => ?_⟩
  obtain rfl := r2.intv
  obtain ⟨q2, z1, ⟨ys, z2, z3⟩, _⟩ := (f2.slot i s es_).obj eo2
  rw [h1] at z1
  cases z1
  obtain ⟨f3, k3⟩ := f2.mut (o' := .lst (ds.set j d)) (u := .lst (ys.set j v)) es_ eo2 h1 fun kk => ⟨_, upd_same, ((z3.set (r1.kp k2) j)).kp kk⟩
  exact ⟨q, ys, n, j, rfl, rfl, z2, by rw [z3.len]; exact hj, k _ _ ((k1.trans k2).trans k3) f3⟩
/-- xs[e], a list of one's own -/
def eOix (i : Nat) (f : FE) : FE := fun ss => match objAt ss i with
  | some _ => (f ss).bind fun d s1 => match objAt s1 i, d with
    | some (.lst ds), .int n => .of (atI ds n) s1
    | _, _ => .no
  | none => .no
theorem xoix (i : Nat) (h : PE X a (tOp (rIxL X.F) (tVar i) (tD X.F f))) : PE X a (tD X.F (eOix i f)) := by
  refine h.imp fun σ H Q q => ?_
  obtain ⟨fx, ss, d, s3, fr, e, k⟩ := q
  unfold eOix at e
  split at e
  rotate_left
  · cases e
  rename_i o ho
  obtain ⟨s0, e0, eo⟩ := objAt_some ho
  obtain ⟨q, h1, _, _⟩ := (fr.slot i s0 e0).obj eo
  obtain ⟨y, s1, e1, e⟩ := bind_ok e
  refine ⟨_, h1, fx, ss, y, s1, fr, e1, fun w H1 k1 f1 r1 => ?_⟩
  split at e
  · rename_i ds n ho1
    obtain ⟨eg, rfl⟩ := of_ok e
    obtain ⟨s', a1, a2⟩ := objAt_some ho1
    obtain ⟨q2, z1, ⟨ys, z2, z3⟩, _⟩ := (f1.slot i s' a1).obj a2
    rw [h1] at z1
    cases z1
    obtain rfl := r1.intv
    obtain ⟨v, b1, b2⟩ := z3.atI eg
    exact ⟨q, ys, n, v, rfl, rfl, .of z2, b1, k _ _ k1 f1 b2⟩
  · cases e
/-! ### looked at, and left -/
theorem ep_back {pins : List (Addr × Obj)} {σ : St} {H : Hp} {s : Shared} {q : Addr} {o : O} (I : Inv X pins σ H s) (ow : OwnAt X.F H q o) :
    ∃ H1, Inv X pins σ H1 s ∧ Kp H H1 ∧ Rep X.F H1 (.ref q) o.toD ∧ ∀ {Q : VK} {u : Value} {s' : Shared} {b : Bool}, EP X pins σ (fun v H' => v = .bl b ∧ Same H1 H') u s' → (∀ H', Same H H' → Q (.bl b) H') → EP X pins σ Q u s' := by
  obtain ⟨w, hw, lw, mw, rp⟩ := ow.loose
  obtain ⟨od, I1⟩ := I.lock hw mw
  refine ⟨_, I1, Kp.upd hw lw, rp od, fun {Q u s' b} h k => ?_⟩
  obtain ⟨v, H', I2, r, rfl, sm⟩ := h
  have hq : H' q = some (.frz od w) := sm _ _ upd_same
  refine ⟨.bl b, _, I2.unlock hq (I.nofrz hw mw), r, k _ fun a o e => ?_⟩
  by_cases ha : a = q
  · subst ha
    rw [hw] at e
    cases e
    exact upd_same
  · rw [upd_ne ha]
    exact sm a o (by rw [upd_ne ha]; exact e)
def rPkL (K : Fg) (g : D → D → Option D) : R2 := fun x y H Q => ∃ p o e b, x = .ref p ∧ OwnAt K H p o ∧ Rep K H y e ∧ g o.toD e = some (.bool b) ∧ ∀ H', Same H H' → Q (.bl b) H'
def rPkR (K : Fg) (g : D → D → Option D) : R2 := fun x y H Q => ∃ p o d b, y = .ref p ∧ OwnAt K H p o ∧ Rep K H x d ∧ g d o.toD = some (.bool b) ∧ ∀ H', Same H H' → Q (.bl b) H'
theorem opPkL {fo : Value → Value → Sem Value} {g : D → D → Option D} (h : OpR X fo (rD X.F g)) : OpR X fo (rPkL X.F g) := by
  intro pins s σ H x y v u Q I rx ry ⟨p, o, e, b, hx, ow, he, hg, k⟩
  subst hx
  obtain ⟨H1, I1, k1, rp, back⟩ := ep_back I ow
  exact thn (h pins s σ H1 _ _ v u (fun v H' => v = .bl b ∧ Same H1 H') I1 rx ry ⟨_, e, _, rp, he.kp k1, hg, fun v H' sm rv => ⟨rv.bool, sm⟩⟩) fun _ _ q => back q k
theorem opPkR {fo : Value → Value → Sem Value} {g : D → D → Option D} (h : OpR X fo (rD X.F g)) : OpR X fo (rPkR X.F g) := by
  intro pins s σ H x y v u Q I rx ry ⟨p, o, d, b, hx, ow, he, hg, k⟩
  subst hx
  obtain ⟨H1, I1, k1, rp, back⟩ := ep_back I ow
  exact thn (h pins s σ H1 _ _ v u (fun v H' => v = .bl b ∧ Same H1 H') I1 rx ry ⟨d, _, _, he.kp k1, rp, hg, fun v H' sm rv => ⟨rv.bool, sm⟩⟩) fun _ _ q => back q k
def ePkL (g : D → D → Option D) (i : Nat) (f : FE) : FE := fun ss => match objAt ss i with
  | some _ => (f ss).bind fun y s1 => match objAt s1 i with
    | some o => match g o.toD y with
      | some (.bool b) => .ok (.bool b) s1
      | _ => .no
    | none => .no
  | none => .no
def ePkR (g : D → D → Option D) (i : Nat) (f : FE) : FE := fun ss => (f ss).bind fun y s1 => match objAt s1 i with
    | some o => match g y o.toD with
      | some (.bool b) => .ok (.bool b) s1
      | _ => .no
    | none => .no
theorem pkl_read {i : Nat} {g : D → D → Option D} {σ : St} {H : Hp} {Q : VK} (q : tD X.F (ePkL g i f) σ H Q) : tOp (rPkL X.F g) (tVar i) (tD X.F f) σ H Q := by
  obtain ⟨fx, ss, d, s3, fr, e, k⟩ := q
  unfold ePkL at e
  split at e
  rotate_left
  · cases e
  rename_i o0 ho0
  obtain ⟨s0, e0, eo⟩ := objAt_some ho0
  obtain ⟨q, h1, _, _⟩ := (fr.slot i s0 e0).obj eo
  obtain ⟨y, s1, e1, e⟩ := bind_ok e
  refine ⟨_, h1, fx, ss, y, s1, fr, e1, fun w H1 k1 f1 r1 => ?_⟩
  split at e
  rotate_left
  · cases e
  rename_i o1 ho1
  split at e
  rotate_left
  · cases e
  rename_i bb hbb
  cases e
  obtain ⟨s', a1, a2⟩ := objAt_some ho1
  obtain ⟨q2, z1, ow, _⟩ := (f1.slot i s' a1).obj a2
  rw [h1] at z1
  cases z1
  exact ⟨q, o1, y, bb, rfl, ow, r1, hbb, fun H' sm => k _ _ (k1.trans (.same sm)) (f1.same sm) (.bl _)⟩
theorem pkr_read {i : Nat} {g : D → D → Option D} {σ : St} {H : Hp} {Q : VK} (q : tD X.F (ePkR g i f) σ H Q) : tOp (rPkR X.F g) (tD X.F f) (tVar i) σ H Q := by
  obtain ⟨fx, ss, d, s3, fr, e, k⟩ := q
  obtain ⟨y, s1, e1, e⟩ := bind_ok e
  refine ⟨fx, ss, y, s1, fr, e1, fun w H1 k1 f1 r1 => ?_⟩
  split at e
  rotate_left
  · cases e
  rename_i o1 ho1
  split at e
  rotate_left
  · cases e
  rename_i bb hbb
  cases e
  obtain ⟨s', a1, a2⟩ := objAt_some ho1
  obtain ⟨q2, z1, ow, _⟩ := (f1.slot i s' a1).obj a2
  exact ⟨_, z1, q2, o1, y, bb, rfl, ow, r1, hbb, fun H' sm => k _ _ (k1.trans (.same sm)) (f1.same sm) (.bl _)⟩
theorem xpkl (i : Nat) {op : CmpOp} {g : D → D → Option D} (ho : OpR X (compareOp op) (rD X.F g)) (ha : PE X a (tVar i)) (hb : PE X b (tD X.F f)) (hm : behindInMarks op b = false := by first | exact nomark _ | rfl) : PE X (.Compare a [op] [b] pos) (tD X.F (ePkL g i f)) :=
  (pe_cmpR (opPkL ho) ha hb hm).imp fun _ _ _ q => pkl_read q
theorem xpkr (i : Nat) {op : CmpOp} {g : D → D → Option D} (ho : OpR X (compareOp op) (rD X.F g)) (ha : PE X a (tD X.F f)) (hb : PE X b (tVar i)) (hm : behindInMarks op b = false := by first | exact nomark _ | rfl) : PE X (.Compare a [op] [b] pos) (tD X.F (ePkR g i f)) :=
  (pe_cmpR (opPkR ho) ha hb hm).imp fun _ _ _ q => pkr_read q
theorem tpkl (i : Nat) {op : CmpOp} {g : D → D → Option D} (ho : OpR X (compareOp op) (rD X.F g)) (ha : PE X a (tVar i)) (hb : PE X b (tD X.F f)) (hm : behindInMarks op b = false := by first | exact nomark _ | rfl) : PT X (.Compare a [op] [b] pos) (tT X.F (bOf (ePkL g i f))) :=
  tread (pt_cmpR (opPkL ho) ha hb hm) fun _ _ _ q => pkl_read q
theorem tpkr (i : Nat) {op : CmpOp} {g : D → D → Option D} (ho : OpR X (compareOp op) (rD X.F g)) (ha : PE X a (tD X.F f)) (hb : PE X b (tVar i)) (hm : behindInMarks op b = false := by first | exact nomark _ | rfl) : PT X (.Compare a [op] [b] pos) (tT X.F (bOf (ePkR g i f))) :=
  tread (pt_cmpR (opPkR ho) ha hb hm) fun _ _ _ q => pkr_read q
/-- len of a list of one's own -/
def eOlen (i : Nat) : FE := fun ss => match objAt ss i with
  | some (.lst ds) => .ok (.int ds.length) ss
  | _ => .no
theorem xolen (i : Nat) (h : PE X a (tCB (fun xs H Q => ∃ p ys, xs = [.ref p] ∧ (SqL X.F H p ys ∨ SqT X.F H p ys) ∧ Q (.int ys.length) H) (tCons (tVar i) tNil))) : PE X a (tD X.F (eOlen i)) := by
  refine h.imp fun σ H Q q => ?_
  obtain ⟨fx, ss, d, s3, fr, e, k⟩ := q
  unfold eOlen at e
  split at e
  · rename_i ds ho
    cases e
    obtain ⟨s', a1, a2⟩ := objAt_some ho
    obtain ⟨q2, z1, ⟨ys, z2, z3⟩, _⟩ := (fr.slot i s' a1).obj a2
    exact ⟨_, z1, q2, ys, rfl, .inl (.of z2), k _ _ (Kp.refl H) fr (by rw [z3.len]; exact .int _)⟩
  · cases e
/-! ### more stores -/
variable {ws : List Nat}
/-- [a, b] or (a, b) = a list -/
def gLst (n : Nat) (g : List D → SS → Option SS) : GF := fun d ss => match d with
  | .list ds => if ds.length = n then g ds ss else none
  | _ => none
theorem sasgL {st : Stmt} {n : Nat} {g : List D → SS → Option SS} (h : PS X st (tAsg (tD X.F f) (L2.gLst X.F n (gsD X.F g ws)))) : PS X st (tS X.F (sAsg f (gLst n g))) := by
  refine h.imp fun E σ H q => ?_
  obtain ⟨fx, ss, fr, k⟩ := tS_iff.mp q
  unfold sAsg at k
  cases e : f ss with
  | no => rw [e] at k; exact k.elim
  | ok d s1 =>
    rw [e] at k
    simp only at k
    cases e2 : gLst n g d s1 with
    | none => rw [e2] at k; exact k.elim
    | some s2 =>
      rw [e2] at k
      unfold gLst at e2
      split at e2
      · split at e2
        · rename_i ds hl
          refine ⟨fx, ss, _, s1, fr, e, fun v H1 k1 f1 r1 => ?_⟩
          obtain ⟨a, xs, rfl, h1, r2⟩ := r1.lstv
          exact ⟨a, xs, rfl, h1.sq, r2.len.trans hl, fx, s1, ds, s2, f1, r2, e2, fun σ2 H2 _ k2 f2 => k σ2 H2 (k1.trans k2) f2⟩
        · cases e2
      · cases e2
/-- a, b = e1, e2: plain names -/
def sPar (is : List Nat) (f : FL) : FS := fun ss => match f ss with
  | .ok ds s1 => if ds.length = is.length ∧ is.all (fun i => decide (i < s1.length)) = true then .nx ((is.zip ds).foldl (fun t p => t.set p.1 (.imm p.2)) s1) else .no
  | .no => .no
theorem spar {i j : Nat} {st : Stmt} (h : PS X st (tPar i j (tL X.F fl))) : PS X st (tS X.F (sPar [i, j] fl)) := by
  refine h.imp fun E σ H q => ?_
  obtain ⟨fx, ss, fr, k⟩ := tS_iff.mp q
  unfold sPar at k
  cases e : fl ss with
  | no => rw [e] at k; exact k.elim
  | ok ds s1 =>
    rw [e] at k
    simp only at k
    split at k
    · rename_i hc
      refine ⟨fx, ss, ds, s1, fr, e, fun vs H1 k1 f1 r1 => ?_⟩
      match ds, hc.1, r1, k with
      | [d1, d2], _, .cons h1 (.cons h2 .nil), k =>
        have hi := hc.2
        simp only [List.all_cons, List.all_nil, Bool.and_true, Bool.and_eq_true, decide_eq_true_eq] at hi
        exact ⟨_, _, rfl, k _ _ k1 ((f1.imm hi.1 h1).imm (by rw [List.length_set]; exact hi.2) h2)⟩
    · exact k.elim
theorem spar3 {i j l : Nat} {st : Stmt} (h : PS X st (tPar3 i j l (tL X.F fl))) : PS X st (tS X.F (sPar [i, j, l] fl)) := by
  refine h.imp fun E σ H q => ?_
  obtain ⟨fx, ss, fr, k⟩ := tS_iff.mp q
  unfold sPar at k
  cases e : fl ss with
  | no => rw [e] at k; exact k.elim
  | ok ds s1 =>
    rw [e] at k
    simp only at k
    split at k
    · rename_i hc
      refine ⟨fx, ss, ds, s1, fr, e, fun vs H1 k1 f1 r1 => ?_⟩
      match ds, hc.1, r1, k with
      | [d1, d2, d3], _, .cons h1 (.cons h2 (.cons h3 .nil)), k =>
        have hi := hc.2
        simp only [List.all_cons, List.all_nil, Bool.and_true, Bool.and_eq_true, decide_eq_true_eq] at hi
        exact ⟨_, _, _, rfl, k _ _ k1 (((f1.imm hi.1 h1).imm (by rw [List.length_set]; exact hi.2.1) h2).imm (by rw [List.length_set, List.length_set]; exact hi.2.2) h3)⟩
    · exact k.elim
end
end Dt

/-! Dt9: defs by their places, texts, slices, the rest. -/
namespace Dt
open PySem PySem.Spec L2
open PyProof.Rows hiding St
/-- the def as it stands behind the top -/
def At (K : Fg) (mg : Str → Option Value) (x : Str) (st : Stmt) (ps : List Str) : Prop := ∃ f fd, Fun K x x st f fd ∧ mg x = some (.ref f) ∧ ∀ us : List Value, us.length = ps.length → bindArgs fd ⟨us, []⟩ = pure (ps.zip us)
/-- the def keeps its promise -/
def Ok (P : Program) (K : Fg) (mg : Str → Option Value) (base : Heap) (k : Nat) (x : Str) (ps : List Str) (F : FnS) : Prop := ∃ f fd, FnOk P K.w K.k mg base CX0 k f fd ps (spOf K F ps.length) ∧ mg x = some (.ref f) ∧ PySem.W.keepIn K (.ref f) = true ∧ Binds K fd ps []
section
variable {P : Program} {K : Fg} {mg : Str → Option Value} {base : Heap} {x : Str} {st : Stmt} {N ps : List Str} {k : Nat} {b : FS} {F : FnS}
theorem mk_ok (a : At K mg x st ps) (S : FnScope N ps (defScope st))
    (hbody : ∀ (f : Addr) (cdv : Value) (A : Around) (outer : List Env) (s : Shared) (H : Hp) (E : XK), Room k (A.deeper (envOfC x (defScope st) s.heap.objs.size f cdv)) →
      PSs (cxOf CX0 P K.w K.k mg base N x (defScope st) f cdv A outer s H E).nox (defBody st) (tS K b)) : Ok P K mg base (k + 1) x ps (callF N.length b) := by
  obtain ⟨f, fd, F, m, bi⟩ := a
  exact ⟨f, fd, fn_ok F S (hbody f), m, F.kp, .all bi⟩
theorem ok_none (a : At K mg x st ps) : Ok P K mg base k x ps (fun _ => none) := by
  obtain ⟨f, fd, F, m, bi⟩ := a
  refine ⟨f, fd, ⟨fun vs H Q E h => h.1, fun A outer s H args us vs Q E _ _ _ _ h => ?_⟩, m, F.kp, .all bi⟩
  obtain ⟨_, _, _, _, _, h, _⟩ := h
  cases h
theorem Ok.mono {j : Nat} (h : Ok P K mg base j x ps F) (l : j ≤ k) : Ok P K mg base k x ps F := by
  obtain ⟨f, fd, G, r⟩ := h
  exact ⟨f, fd, G.mono l, r⟩
end
section
variable {X : Cx} {a b : Expr} {es : List Expr} {pos p : Pos} {f g : FE} {fl : FL} {x : Str} {k : Nat} {ps : List Str} {F : FnS} {fa : SS → Res (List Ar)} {e : Expr}
theorem xc (G : Ok X.prog X.F X.mg X.base k x ps F) (hr : Room k X.A) (ha : PA X (e :: es) (tA X.F fa)) (hal : LenA fa (e :: es).length) (hl : (e :: es).length = ps.length := by rfl) (hg : Gl X x := by rfl)
    (hdb : (x == ("__debug__" : Str)) = false := by decide) (he : starEach (e :: es) X.env = (false, eval e X.env) :: starEach es X.env := by rfl) (hpl : (backTo pos (starEach es X.env)).any (·.1) = false := by rfl) : PE X (.Call (.Name x p) (e :: es) [] pos) (tD X.F (eCall F fa)) := by
  obtain ⟨f, fd, G, m, kp, bi⟩ := G
  exact xcall G hr m kp bi ha hl hal hg hdb he hpl
theorem xcn (G : Ok X.prog X.F X.mg X.base k x ps F) (hr : Room k X.A) (ha : PA X (e :: es) (tA X.F fa)) (hal : LenA fa (e :: es).length) (hl : (e :: es).length = ps.length := by rfl) (hg : Gl X x := by rfl)
    (hdb : (x == ("__debug__" : Str)) = false := by decide) (he : starEach (e :: es) X.env = (false, eval e X.env) :: starEach es X.env := by rfl) (hpl : (backTo pos (starEach es X.env)).any (·.1) = false := by rfl) : PE X (.Call (.Name x p) (e :: es) [] pos) (tN X.F (nCall F fa)) := by
  obtain ⟨f, fd, G, m, kp, bi⟩ := G
  exact xcallN G hr m kp bi ha hl hal hg hdb he hpl
/-- -n -/
def dNeg : D → Option D
  | .int i => some (.int (-i))
  | _ => none
theorem unNeg : UnR X (unaryOp .USub) (uD X.F dNeg) := by
  intro pins s σ H x v Q I rx ⟨d, z, hd, hz, k⟩
  unfold dNeg at hz
  split at hz
  · cases hz
    obtain rfl := hd.intv
    exact un_neg pins s σ H _ v Q I rx ⟨_, rfl, k _ _ (Same.refl H) (.int _)⟩
  · cases hz
/-! ### slices -/
/-- a bound of a slice: an int, or none -/
abbrev FO := SS → Res (Option Int)
def oNone : FO := fun ss => .ok none ss
def oSome (f : FE) : FO := fun ss => (f ss).bind fun d s1 => match d with
  | .int i => .ok (some i) s1
  | _ => .no
def tO (K : Fg) (f : FO) : TO := fun σ H Q => ∃ fx ss o ss', FR K fx ss σ H ∧ f ss = .ok o ss' ∧ ∀ H', Kp H H' → FR K fx ss' σ H' → Q o H'
theorem on : PO X none (tO X.F oNone) := by
  refine ⟨fun s σ H pins Q I q => po_none.run s σ H pins Q I ?_⟩
  obtain ⟨fx, ss, o, s1, fr, e, k⟩ := q
  cases e
  exact k _ (Kp.refl _) fr
theorem os (h : PE X a (tD X.F f)) : PO X (some a) (tO X.F (oSome f)) := by
  refine ⟨fun s σ H pins Q I q => (po_some h).run s σ H pins Q I ?_⟩
  obtain ⟨fx, ss, o, s2, fr, e, k⟩ := q
  obtain ⟨d, s1, e1, e⟩ := bind_ok e
  split at e
  · cases e
    exact ⟨fx, ss, _, _, fr, e1, fun v H1 k1 f1 r1 => ⟨_, r1.intv, k H1 k1 f1⟩⟩
  · cases e
def eSl (f : FE) (lo hi : FO) : FE := fun ss => (f ss).bind fun d s1 => (lo s1).bind fun l s2 => (hi s2).bind fun h s3 => .of (dSl d l h) s3
theorem xsl {p2 : Pos} {lo hi : Option Expr} {fo fh : FO} (he : PE X a (tD X.F f)) (hl : PO X lo (tO X.F fo)) (hu : PO X hi (tO X.F fh)) : PE X (.Subscript a (.Slice lo hi none p2) pos) (tD X.F (eSl f fo fh)) := by
  refine (pe_slice slD he hl hu).imp fun σ H Q q => ?_
  obtain ⟨fx, ss, d, s4, fr, e, k⟩ := q
  obtain ⟨x, s1, e1, e⟩ := bind_ok e
  obtain ⟨l, s2, e2, e⟩ := bind_ok e
  obtain ⟨h, s3, e3, e⟩ := bind_ok e
  obtain ⟨eg, rfl⟩ := of_ok e
  exact ⟨fx, ss, x, s1, fr, e1, fun v H1 k1 f1 r1 => ⟨fx, s1, l, s2, f1, e2, fun H2 k2 f2 => ⟨fx, s2, h, _, f2, e3, fun H3 k3 f3 => ⟨x, d, (r1.kp k2).kp k3, eg, fun w H4 sm rw_ => k w H4 (((k1.trans k2).trans k3).trans (.same sm)) (f3.same sm) rw_⟩⟩⟩⟩
/-- isinstance(x, (A, B)) -/
def dIs2 (T U : String) (d : D) : Option D := match dIs T d, dIs U d with
  | some (.bool a), some (.bool b) => some (.bool (a || b))
  | _, _ => none
theorem xis2 {x1 x2 : Str} {tT tU : String} {p2 p3 p4 : Pos} {n : Nat} (hT : IsTy tT) (hU : IsTy tU) (ha : PE X a (tD X.F f)) (hm : X.mg "isinstance" = none) (hm1 : X.mg x1 = none) (hm2 : X.mg x2 = none) (hv1 : bootBuiltins x1 = some (.type tT)) (hv2 : bootBuiltins x2 = some (.type tU)) (hg1 : Gl X x1 := by rfl) (hg2 : Gl X x2 := by rfl)
    (hn1 : x1 ≠ "__name__" := by decide) (hn2 : x2 ≠ "__name__" := by decide) (hd1 : (x1 == ("__debug__" : Str)) = false := by decide) (hd2 : (x2 == ("__debug__" : Str)) = false := by decide) (hg : Gl X "isinstance" := by rfl) (hv : bootBuiltins "isinstance" = some (.builtin "isinstance") := by decide +kernel)
    (he : starEach [a, .Tuple [.Name x1 p2, .Name x2 p3] n p4] X.env = (false, eval a X.env) :: starEach [.Tuple [.Name x1 p2, .Name x2 p3] n p4] X.env := by rfl) (hpl : (backTo pos (starEach [.Tuple [.Name x1 p2, .Name x2 p3] n p4] X.env)).any (·.1) = false := by rfl)
    (he2 : starEach [.Tuple [.Name x1 p2, .Name x2 p3] n p4] X.env = (false, eval (.Tuple [.Name x1 p2, .Name x2 p3] n p4) X.env) :: starEach [] X.env := by rfl) (hs1 : starEach [.Name x1 p2, .Name x2 p3] X.env = (false, eval (.Name x1 p2) X.env) :: starEach [.Name x2 p3] X.env := by rfl) (hs2 : starEach [.Name x2 p3] X.env = (false, eval (.Name x2 p3) X.env) :: starEach [] X.env := by rfl) :
    PE X (.Call (.Name "isinstance" p) [a, .Tuple [.Name x1 p2, .Name x2 p3] n p4] [] pos) (tD X.F (eUn (dIs2 tT tU) f)) := by
  refine (pe_callB call_isiT hg hm hv (pa_cons ha (pa_cons (pe_tup (pa_cons (pe_bltn (v := .ty tT) hg1 hm1 hv1 rfl hn1 hd1) (pa_cons (pe_bltn (v := .ty tU) hg2 hm2 hv2 rfl hn2 hd2) pa_nil hs2) hs1)) pa_nil he2) he) (by decide) (by decide) he hpl).imp fun σ H Q q => ?_
  obtain ⟨fx, ss, d, s3, fr, e, k⟩ := q
  obtain ⟨y, s1, e1, e⟩ := bind_ok e
  obtain ⟨eg, rfl⟩ := of_ok e
  refine ⟨fx, ss, y, _, fr, e1, fun v H1 k1 f1 r1 => ⟨by show 2 ≤ sizeLine; decide, fun tp htp => ?_⟩⟩
  unfold dIs2 at eg
  split at eg
  · rename_i ba bb h1 h2
    cases eg
    obtain ⟨_, z1, q1, n1⟩ := kit_is (K := X.F) hT h1
    obtain ⟨_, z2, q2, _⟩ := kit_is (K := X.F) hU h2
    cases z1
    cases z2
    have sm : Same H1 (upd H1 tp (.tup [.ty tT, .ty tU])) := same_new htp
    refine ⟨v, tp, [.ty tT, .ty tU], .type (tyName y), [.type tT, .type tU], ba || bb, rfl, upd_same, .cons (.ty tT) (.cons (.ty tU) .nil), tyx_of (r1.kp (.same sm)) n1, kitAny_cons q1 (fun hb => by rw [hb]; exact kitAny_cons q2 (fun hb2 => by rw [hb2]; exact kitAny_nil) fun hb2 => by rw [hb2]; rfl) (fun hb => by rw [hb]; rfl), k _ _ (k1.trans (.same sm)) (f1.same sm) (.bl _)⟩
  · cases eg
/-- a list of one's own, handed on -/
def nV (i : Nat) : FN := fun ss => match ss[i]? with
  | some (.own o) => .ok o (ss.set i .un)
  | _ => .no
theorem xnv (i : Nat) (h : PE X a (tVar i)) : PE X a (tN X.F (nV i)) := by
  refine h.imp fun σ H Q q => ?_
  obtain ⟨fx, ss, d, s3, fr, e, k⟩ := q
  unfold nV at e
  split at e
  · rename_i o e1
    cases e
    obtain ⟨q, h1, h2, h3⟩ := fr.slot i _ e1
    have lt : i < ss.length := (List.getElem?_eq_some_iff.mp e1).1
    have es : σ.set i (some (.ref q)) = σ := by
      apply List.ext_getElem?
      intro j
      by_cases hj : j = i
      · subst hj
        rw [List.getElem?_set_self (fr.lt lt), h1]
      · rw [List.getElem?_set_ne (Ne.symm hj)]
    have f1 := fr.un (i := i) (x := some (.ref q))
    rw [es] at f1
    refine ⟨_, h1, k q H (Kp.refl H) f1 h2 ⟨h3, fun j sj oj ej eoj hj => ?_⟩⟩
    rcases get_set_eq ej with ⟨rfl, rfl⟩ | ⟨ne, ej⟩
    · cases eoj
    · exact ne (fr.dis j i q sj _ oj _ ej e1 eoj rfl hj h1)
  · cases e
end
end Dt

/-! Dt10: built-in calls that make lists; texts. -/
namespace Dt
open PySem PySem.Spec L2
open PyProof.Rows hiding St
abbrev fuelW : Nat := 100000
theorem bt_len : bootBuiltins "len" = some (.builtin "len") := by decide +kernel
theorem bt_all : bootBuiltins "all" = some (.builtin "all") := by decide +kernel
theorem bt_any : bootBuiltins "any" = some (.builtin "any") := by decide +kernel
theorem bt_sum : bootBuiltins "sum" = some (.builtin "sum") := by decide +kernel
theorem bt_max : bootBuiltins "max" = some (.builtin "max") := by decide +kernel
theorem bt_min : bootBuiltins "min" = some (.builtin "min") := by decide +kernel
theorem bt_ord : bootBuiltins "ord" = some (.builtin "ord") := by decide +kernel
theorem bt_sorted : bootBuiltins "sorted" = some (.builtin "sorted") := by decide +kernel
theorem bt_int : bootBuiltins "int" = some (.type "int") := by decide +kernel
theorem bt_bool : bootBuiltins "bool" = some (.type "bool") := by decide +kernel
theorem bt_str : bootBuiltins "str" = some (.type "str") := by decide +kernel
theorem bt_list : bootBuiltins "list" = some (.type "list") := by decide +kernel
theorem bt_tuple : bootBuiltins "tuple" = some (.type "tuple") := by decide +kernel
theorem bt_dict : bootBuiltins "dict" = some (.type "dict") := by decide +kernel
theorem bt_set : bootBuiltins "set" = some (.type "set") := by decide +kernel
def nCB (g : List D → Option O) (a : FL) : FN := fun ss => (a ss).bind fun x s1 => .of (g x) s1
section
variable {X : Cx} {a b : Expr} {es : List Expr} {pos p : Pos} {f fa fb : FE} {fl : FL} {x : Str}
theorem cbn_read {g : List D → Option O} {σ : St} {H : Hp} {Q : VK} (q : tN X.F (nCB g fl) σ H Q) : tCB (cDN X.F g) (tL X.F fl) σ H Q := by
  obtain ⟨fx, ss, d, s3, fr, e, k⟩ := q
  obtain ⟨x, s1, e1, e⟩ := bind_ok e
  obtain ⟨eg, rfl⟩ := of_ok e
  exact ⟨fx, ss, x, _, fr, e1, fun v H1 k1 f1 r1 => ⟨x, d, r1, eg, fun p H' hp sm ow => k p H' (k1.trans (.same sm)) (f1.same sm) ow (f1.newAt hp)⟩⟩
theorem xcbN {id : String} {g : List D → Option O} (hc : CallR X (.builtin id) (cDN X.F g)) (hm : X.mg x = none) (hv : bootBuiltins x = some (.builtin id)) (ha : PA X (a :: es) (tL X.F fl)) (hg : Gl X x := by rfl) (hn : x ≠ "__name__" := by decide) (hdb : (x == ("__debug__" : Str)) = false := by decide)
    (he : starEach (a :: es) X.env = (false, eval a X.env) :: starEach es X.env := by rfl) (hpl : (backTo pos (starEach es X.env)).any (·.1) = false := by rfl) : PE X (.Call (.Name x p) (a :: es) [] pos) (tN X.F (nCB g fl)) :=
  (pe_callB hc hg hm hv ha hn hdb he hpl).imp fun σ H Q q => cbn_read q
theorem xctN {id : String} {g : List D → Option O} (hc : CallR X (.type id) (cDN X.F g)) (hm : X.mg x = none) (hv : bootBuiltins x = some (.type id)) (ha : PA X (a :: es) (tL X.F fl)) (hg : Gl X x := by rfl) (hn : x ≠ "__name__" := by decide) (hdb : (x == ("__debug__" : Str)) = false := by decide)
    (he : starEach (a :: es) X.env = (false, eval a X.env) :: starEach es X.env := by rfl) (hpl : (backTo pos (starEach es X.env)).any (·.1) = false := by rfl) : PE X (.Call (.Name x p) (a :: es) [] pos) (tN X.F (nCB g fl)) :=
  (pe_callTy hc hg hm hv ha hn hdb he hpl).imp fun σ H Q q => cbn_read q
/-- xs + ys, the new list one's own -/
def gCat : D → D → Option O
  | .list xs, .list ys => if xs.length + ys.length ≤ sizeLine then some (.lst (xs ++ ys)) else none
  | _, _ => none
theorem opCatN : OpR X (binaryOp .Add) (rDN X.F gCat) := by
  intro pins s σ H x y v u Q I rx ry ⟨d, e, z, hd, he, hz, k⟩
  unfold gCat at hz
  split at hz
  · split at hz
    · rename_i hl
      cases hz
      obtain ⟨a, xs, rfl, h1, r1⟩ := hd.lstv
      obtain ⟨b, ys, rfl, h2, r2⟩ := he.lstv
      exact op_catF pins s σ H _ _ _ _ Q I rx ry ⟨a, b, xs, ys, rfl, rfl, h1.sq, h2.sq, by rw [r1.len, r2.len]; exact hl, fun p hp => k p _ hp (same_new hp) ⟨_, upd_same, (r1.append r2).kp (.same (same_new hp))⟩⟩
    · cases hz
  · cases hz
def nOp (g : D → D → Option O) (a b : FE) : FN := fun ss => (a ss).bind fun x s1 => (b s1).bind fun y s2 => .of (g x y) s2
theorem xopN {op : Operator} {g : D → D → Option O} (ho : OpR X (binaryOp op) (rDN X.F g)) (ha : PE X a (tD X.F fa)) (hb : PE X b (tD X.F fb)) : PE X (.BinOp a op b pos) (tN X.F (nOp g fa fb)) := by
  refine (pe_op ho ha hb).imp fun σ H Q q => ?_
  obtain ⟨fx, ss, d, s3, fr, e, k⟩ := q
  obtain ⟨x, s1, e1, e⟩ := bind_ok e
  obtain ⟨y, s2, e2, e⟩ := bind_ok e
  obtain ⟨eg, rfl⟩ := of_ok e
  exact ⟨fx, ss, x, s1, fr, e1, fun v H1 k1 f1 r1 => ⟨fx, s1, y, _, f1, e2, fun u H2 k2 f2 r2 => ⟨x, y, d, r1.kp k2, r2, eg, fun p H' hp sm ow => k p H' ((k1.trans k2).trans (.same sm)) (f2.same sm) ow (f2.newAt hp)⟩⟩⟩
/-! ### texts -/
def asS : D → Option Str
  | .str x => some x
  | _ => none
theorem asS_some {d : D} {x : Str} (h : asS d = some x) : d = .str x := by
  cases d <;> first | (cases h; rfl) | cases h
theorem strsOf : ∀ {ds : List D} {bs : List Str}, ds.mapM asS = some bs → ds = bs.map .str
  | [], bs, h => by cases h; rfl
  | d :: ds, bs, h => by
    rw [List.mapM_cons] at h
    obtain ⟨b, h1, h⟩ := Option.bind_eq_some_iff.mp h
    obtain ⟨bs', h2, h⟩ := Option.bind_eq_some_iff.mp h
    cases h
    rw [asS_some h1, strsOf h2]
    rfl
theorem mapM_strs : ∀ ns : List Str, (ns.map PyData.str).mapM asS = some ns
  | [] => rfl
  | n :: ns => by rw [List.map_cons, List.mapM_cons, mapM_strs ns]; rfl
theorem RepAll.strs {K : Fg} {H : Hp} : ∀ {vs : List V} {bs : List Str}, RepAll K H vs (bs.map .str) → vs = bs.map V.str
  | [], [], _ => rfl
  | v :: vs, b :: bs, h => by
    cases h with
    | cons h r => rw [h.strv, RepAll.strs r]; rfl
  | v :: vs, [], h => by cases h
  | [], b :: bs, h => by cases h
theorem repStrs {K : Fg} {H : Hp} : ∀ bs : List Str, RepAll K H (bs.map V.str) (bs.map .str)
  | [] => .nil
  | b :: bs => .cons (.str b) (repStrs bs)
/-- s.m(e), by data -/
def gM1 (g : D → D → Option D) : D → List D → Option D := fun d es => match es with
  | [e] => g d e
  | _ => none
def eM1 (g : Str → D → Option D) (a b : FE) : FE := fun ss => (a ss).bind fun x s1 => match x with
  | .str x => (b s1).bind fun y s2 => .of (g x y) s2
  | _ => .no
theorem m1_read {r : V → List V → Hp → VK → Prop} {g : Str → D → Option D} {e : Expr} (h : PE X e (tM1 r (tD X.F fa) (tD X.F fb))) (hr : ∀ (H : Hp) (x : Str) (v : V) (d z : D) (Q : VK), Rep X.F H v d → g x d = some z → (∀ w H', Same H H' → Rep X.F H' w z → Q w H') → r (.str x) [v] H Q) : PE X e (tD X.F (eM1 g fa fb)) := by
  refine h.imp fun σ H Q q => ?_
  obtain ⟨fx, ss, d, s3, fr, e, k⟩ := q
  obtain ⟨x, s1, e1, e⟩ := bind_ok e
  split at e
  · obtain ⟨y, s2, e2, e⟩ := bind_ok e
    obtain ⟨eg, rfl⟩ := of_ok e
    refine ⟨fx, ss, _, s1, fr, e1, fun v H1 k1 f1 r1 => ?_⟩
    obtain rfl := r1.strv
    exact ⟨⟨_, rfl⟩, fx, s1, y, _, f1, e2, fun u H2 k2 f2 r2 => hr H2 _ u y d Q r2 eg fun w H' sm rw_ => k w H' ((k1.trans k2).trans (.same sm)) (f2.same sm) rw_⟩
  · cases e
def gJoin (x : Str) (d : D) : Option D := match d with
  | .list ds => (ds.mapM asS).bind fun ys => if (ys.map (·.length)).sum + ys.length * x.length ≤ 16777216 then some (.str (Txt.join x ys)) else none
  | .tuple ds => (ds.mapM asS).bind fun ys => if (ys.map (·.length)).sum + ys.length * x.length ≤ 16777216 then some (.str (Txt.join x ys)) else none
  | _ => none
theorem mJoin {apos : Pos} (ho : PE X a (tD X.F fa)) (he : PE X b (tD X.F fb)) (hs : starEach [b] X.env = [(false, eval b X.env)] := by rfl) (hbase : attributeBase a "join" X.env (eval a X.env) = eval a X.env := by rfl) (hline : (apos.endLine == pos.line) = true := by rfl) :
    PE X (.Call (.Attribute a "join" apos) [b] [] pos) (tD X.F (eM1 gJoin fa fb)) := by
  refine m1_read (pe_join ho he hs hbase hline) fun H x v d z Q rv hz k => ?_
  unfold gJoin at hz
  split at hz
  · obtain ⟨ys, h1, h2⟩ := Option.bind_eq_some_iff.mp hz
    split at h2
    · rename_i hl
      cases h2
      obtain ⟨q, xs, rfl, g1, r1⟩ := rv.lstv
      rw [strsOf h1] at r1
      rw [r1.strs] at g1
      exact ⟨x, q, ys, rfl, rfl, .inl g1.sq, hl, k _ _ (Same.refl H) (.str _)⟩
    · cases h2
  · obtain ⟨ys, h1, h2⟩ := Option.bind_eq_some_iff.mp hz
    split at h2
    · rename_i hl
      cases h2
      obtain ⟨q, xs, rfl, g1, r1⟩ := rv.tupv
      rw [strsOf h1] at r1
      rw [r1.strs] at g1
      exact ⟨x, q, ys, rfl, rfl, .inr g1, hl, k _ _ (Same.refl H) (.str _)⟩
    · cases h2
  · cases hz
end
end Dt

/-! Dt11: the ends. -/
namespace Dt
open PySem PySem.Spec L2
open PyProof.Rows hiding St
section
variable {K : Fg} {kk : PySem.W.Frag} {w : World} {h : Heap} {mg : Str → Option Value}
theorem at_mk {x : Str} {st : Stmt} {ps : List Str} {f : Addr} {od an : Option Addr} {sl : Array (Option Value)} {oc kV dc pm cd ct : Value} (X : kk.In h) (G : h.Ns mainGlobals mg)
    (a : PySem.W.nsIn kk mainGlobals x = some (some (.ref f))) (l : kk.lookup f = some ⟨oc, od, .func (PySem.W.fnOf x x (defArgs st) (defBody st) (defScope st) .none kV dc pm an cd ct), sl⟩) (c : PySem.W.codeIn kk cd x = true) (k : PySem.W.keepIn kk (.ref f) = true)
    (b : ∀ (kV doc pm : Value) (an : Option Addr) (cdv ct : Value) (us : List Value), us.length = ps.length → bindArgs (PySem.W.fnOf x x (defArgs st) (defBody st) (defScope st) .none kV doc pm an cdv ct) ⟨us, []⟩ = pure (ps.zip us)) : At ⟨kk, w⟩ mg x st ps := by
  have F := fun_mk (K := kk) (st := st) l c k
  exact ⟨f, _, F, PySem.W.mg_of X G a, b kV dc pm an cd ct⟩
theorem no_mk {x : Str} (X : kk.In h) (G : h.Ns mainGlobals mg) (z : PySem.W.nsIn kk mainGlobals x = some none) : mg x = none := PySem.W.mg_none_of X G z
theorem gl_int {x : Str} {n : Int} {t : Tok} (X : kk.In h) (G : h.Ns mainGlobals mg) (z : PySem.W.nsIn kk mainGlobals x = some (some (.int n t))) : GlD ⟨kk, w⟩ mg x (.int n) := ⟨.int n, _, PySem.W.mg_of X G z, ⟨t, rfl⟩, fun _ => .int n⟩
theorem gl_str {x y : Str} {t : Tok} (X : kk.In h) (G : h.Ns mainGlobals mg) (z : PySem.W.nsIn kk mainGlobals x = some (some (.str y t))) : GlD ⟨kk, w⟩ mg x (.str y) := ⟨.str y, _, PySem.W.mg_of X G z, ⟨t, rfl⟩, fun _ => .str y⟩
/-- data of the written part -/
inductive RepK (K : Fg) : Value → V → D → Prop
  | int {n : Int} {t : Tok} : RepK K (.int n t) (.int n) (.int n)
  | str {x : Str} {t : Tok} : RepK K (.str x t) (.str x) (.str x)
  | tup {a : Addr} {o : Obj} {us : Array Value} {n : Nat} {vs : List V} {ds : List D} : K.k.lookup a = some o → o.cls = .type "tuple" → o.data = .seq us n → us.size ≤ sizeLine → Vals vs us.toList → (∀ H, RepAll K H vs ds) → RepK K (.ref a) (.ref a) (.tuple ds)
theorem RepK.rep {u : Value} {v : V} {d : D} (h : RepK K u v d) : RelV v u ∧ ∀ H, Rep K H v d := by
  cases h with
  | @int n t => exact ⟨⟨t, rfl⟩, fun _ => .int n⟩
  | @str x t => exact ⟨⟨t, rfl⟩, fun _ => .str x⟩
  | tup l c d s r q => exact ⟨rfl, fun H => .tup (.inr ⟨_, _, _, l, c, d, s, r⟩) (q H)⟩
inductive RepsK (K : Fg) : Nat → List Value → List V → List D → Prop
  | nil : RepsK K 0 [] [] []
  | cons {n : Nat} {u : Value} {us : List Value} {v : V} {vs : List V} {d : D} {ds : List D} : RepK K u v d → RepsK K n us vs ds → RepsK K (n + 1) (u :: us) (v :: vs) (d :: ds)
theorem RepsK.reps {n : Nat} {us : List Value} {vs : List V} {ds : List D} (h : RepsK K n us vs ds) : us.length = n ∧ Vals vs us ∧ ∀ H, RepAll K H vs ds := by
  induction h with
  | nil => exact ⟨rfl, .nil, fun _ => .nil⟩
  | cons h _ ih => exact ⟨by rw [List.length_cons, ih.1], .cons h.rep.1 ih.2.1, fun H => .cons (h.rep.2 H) (ih.2.2 H)⟩
theorem kt {a : Addr} {od : Option Addr} {us : List Value} {n m : Nat} {sl : Array (Option Value)} {vs : List V} {ds : List D} (l : kk.lookup a = some ⟨.type "tuple", od, .seq us.toArray n, sl⟩) (r : RepsK ⟨kk, w⟩ m us vs ds) (hs : m ≤ 1000 := by decide) : RepK ⟨kk, w⟩ (.ref a) (.ref a) (.tuple ds) :=
  .tup l rfl rfl (by rw [List.size_toArray, r.reps.1]; exact Nat.le_trans hs (by decide)) r.reps.2.1 r.reps.2.2
theorem gl_mk {x : Str} {u : Value} {v : V} {d : D} (X : kk.In h) (G : h.Ns mainGlobals mg) (z : PySem.W.nsIn kk mainGlobals x = some (some u)) (r : RepK ⟨kk, w⟩ u v d) : GlD ⟨kk, w⟩ mg x d := ⟨v, u, PySem.W.mg_of X G z, r.rep.1, r.rep.2⟩
end
theorem bind1 {fd : FuncData} {x : Str} (b : ∀ us : List Value, us.length = [x].length → bindArgs fd ⟨us, []⟩ = pure ([x].zip us)) (s : Shared) (u : Value) : BindsTo s fd ⟨[u], []⟩ [(x, u)] := .of_eq (b [u] rfl)
/-- the promise of a law -/
def spLaw (K : Fg) : Sp := fun vs H Q _ => ∃ (a : Addr) (ns : List Int), vs = [.ref a] ∧ LstF K H a (ns.map V.int) ∧ ns.length ≤ 63 ∧ ∀ H', Q (.bl true) H'
theorem rep_ints {K : Fg} {H : Hp} : ∀ ns : List Int, RepAll K H (ns.map V.int) (ns.map .int)
  | [] => .nil
  | n :: ns => .cons (.int n) (rep_ints ns)
theorem law_imp {K : Fg} {F : FnS} (hF : ∀ ns : List Int, ns.length ≤ 63 → ∃ args, F [.imm (.list (ns.map .int))] = some (.imm (.bool true), args)) (vs : List V) (H : Hp) (Q : VK) (E : XK) (h : spLaw K vs H Q E) : spOf K F 1 vs H Q E := by
  obtain ⟨a, ns, rfl, hS, hl, k⟩ := h
  obtain ⟨args, e⟩ := hF ns hl
  refine ⟨rfl, _, _, _, ⟨rfl, fun i sl v h1 h2 => ?_, fun i j o u v h1 => ?_⟩, e, fun v H' pc => ?_⟩
  · cases i with
    | zero => cases h1; cases h2; exact .lst hS (rep_ints ns)
    | succ i => cases h1
  · cases i with
    | zero => cases h1
    | succ i => cases h1
  · have r := pc.ret
    obtain rfl := r.bool
    exact k H'
theorem law_in {K : Fg} {H : Hp} {a : Addr} {ns : List Int} (hl : ns.length ≤ 63) (o : Only H) (hS : SqL K H a (ns.map V.int)) : spLaw K [.ref a] H (fun v _ => v = .bl true) fun _ _ _ => False := by
  refine ⟨a, ns, rfl, ?_, hl, fun _ => rfl⟩
  rcases hS with (h | ⟨o, h⟩) | h
  · rcases o a with z | ⟨_, _, z⟩
    · rw [z] at h; cases h
    · rw [z] at h; cases h
  · exact .inl ⟨o, h⟩
  · exact .inr h
end Dt

/-! Dt12: f-strings, methods of texts, xs[::-1] of a tuple. -/
namespace Dt
open PySem PySem.Spec L2
open PyProof.Rows hiding St
section
variable {X : Cx} {a b : Expr} {es : List Expr} {pos p : Pos} {f g fa fb : FE} {fs : List FE}
/-! ### f-strings -/
def jD (f : FE) : FE := fun ss => (f ss).bind fun d s1 => match d with
  | .str y => if y.length ≤ sizeLine then .ok (.str y) s1 else .no
  | .int i => if i.natAbs.log2 < 1920 then .ok (.str (toString i)) s1 else .no
  | _ => .no
theorem jd (h : PE X a (tD X.F f)) : PE X (.FormattedValue a (-1) none pos) (tD X.F (jD f)) := by
  refine (pe_fmt h).imp fun σ H Q q => ?_
  obtain ⟨fx, ss, d, s3, fr, e, k⟩ := q
  obtain ⟨x, s1, e1, e⟩ := bind_ok e
  split at e
  · split at e
    · rename_i hl
      cases e
      exact ⟨fx, ss, _, _, fr, e1, fun v H1 k1 f1 r1 => .inl ⟨_, r1.strv, hl, k _ _ k1 f1 (.str _)⟩⟩
    · cases e
  · split at e
    · rename_i hl
      cases e
      exact ⟨fx, ss, _, _, fr, e1, fun v H1 k1 f1 r1 => .inr ⟨_, r1.intv, hl, k _ _ k1 f1 (.str _)⟩⟩
    · cases e
  · cases e
def jsF : List FE → Str → SS → Res Str
  | [], acc, ss => .ok acc ss
  | f :: fs, acc, ss => (f ss).bind fun d s1 => match d with
    | .str y => if (acc ++ y).length ≤ sizeLine then jsF fs (acc ++ y) s1 else .no
    | _ => .no
def eJ (fs : List FE) : FE := fun ss => (jsF fs Str.empty ss).bind fun x s1 => .ok (.str x) s1
theorem js_read {K : Fg} {fx : Fx} : ∀ {fs : List FE} {acc out : Str} {ss s3 : SS} {σ : St} {H : Hp} {Q : Str → Hp → Prop}, FR K fx ss σ H → jsF fs acc ss = .ok out s3 → (∀ H', Kp H H' → FR K fx s3 σ H' → Q out H') → tJs (fs.map (tD K)) acc σ H Q
  | [], acc, out, ss, s3, σ, H, Q, fr, e, k => by
    cases e
    exact k H (Kp.refl H) fr
  | f :: fs, acc, out, ss, s3, σ, H, Q, fr, e, k => by
    unfold jsF at e
    obtain ⟨x, s1, e1, e⟩ := bind_ok e
    split at e
    · split at e
      · rename_i hl
        exact ⟨fx, ss, _, s1, fr, e1, fun v H1 k1 f1 r1 => ⟨_, r1.strv, hl, js_read f1 e fun H' k2 f2 => k H' (k1.trans k2) f2⟩⟩
      · cases e
    · cases e
theorem jn : PJ X [] (([] : List FE).map (tD X.F)) := .nil
theorem jc (h : PE X a (tD X.F f)) (r : PJ X es (fs.map (tD X.F))) : PJ X (a :: es) ((f :: fs).map (tD X.F)) := .cons h r
theorem xj {v1 v2 : Expr} {rest : List Expr} (h : PJ X (v1 :: v2 :: rest) (fs.map (tD X.F))) : PE X (.JoinedStr (v1 :: v2 :: rest) pos) (tD X.F (eJ fs)) := by
  refine (pe_joined h).imp fun σ H Q q => ?_
  obtain ⟨fx, ss, d, s3, fr, e, k⟩ := q
  obtain ⟨x, s1, e1, e⟩ := bind_ok e
  cases e
  exact js_read fr e1 fun H' k1 f1 => k _ _ k1 f1 (.str _)
theorem xj1 (h : PE X a (tD X.F f)) : PE X (.JoinedStr [a] pos) (tD X.F f) := pe_joined1 h
/-! ### x.m(e) -/
def nM1 (g : Str → D → Option O) (a b : FE) : FN := fun ss => (a ss).bind fun x s1 => match x with
  | .str x => (b s1).bind fun y s2 => .of (g x y) s2
  | _ => .no
theorem m1n_read {r : V → List V → Hp → VK → Prop} {g : Str → D → Option O} {e : Expr} (h : PE X e (tM1 r (tD X.F fa) (tD X.F fb))) (hr : ∀ (H : Hp) (x : Str) (v : V) (d : D) (z : O) (Q : VK), Rep X.F H v d → g x d = some z → (∀ p H', H p = none → Same H H' → OwnAt X.F H' p z → Q (.ref p) H') → r (.str x) [v] H Q) : PE X e (tN X.F (nM1 g fa fb)) := by
  refine h.imp fun σ H Q q => ?_
  obtain ⟨fx, ss, d, s3, fr, e, k⟩ := q
  obtain ⟨x, s1, e1, e⟩ := bind_ok e
  split at e
  · obtain ⟨y, s2, e2, e⟩ := bind_ok e
    obtain ⟨eg, rfl⟩ := of_ok e
    refine ⟨fx, ss, _, s1, fr, e1, fun v H1 k1 f1 r1 => ?_⟩
    obtain rfl := r1.strv
    exact ⟨⟨_, rfl⟩, fx, s1, y, _, f1, e2, fun u H2 k2 f2 r2 => hr H2 _ u y d Q r2 eg fun p H' hp sm ow => k p H' ((k1.trans k2).trans (.same sm)) (f2.same sm) ow (f2.newAt hp)⟩
  · cases e
def gSplit (x : Str) (d : D) : Option O := match d with
  | .str b => if (b.length == 0) = false ∧ x.length + 2 ≤ sizeLine then some (.lst ((Txt.split x b).map .str)) else none
  | _ => none
theorem mSplit {apos : Pos} (ho : PE X a (tD X.F fa)) (he : PE X b (tD X.F fb)) (hs : starEach [b] X.env = [(false, eval b X.env)] := by rfl) (hbase : attributeBase a "split" X.env (eval a X.env) = eval a X.env := by rfl) (hline : (apos.endLine == pos.line) = true := by rfl) :
    PE X (.Call (.Attribute a "split" apos) [b] [] pos) (tN X.F (nM1 gSplit fa fb)) := by
  refine m1n_read (pe_split ho he hs hbase hline) fun H x v d z Q rv hz k => ?_
  unfold gSplit at hz
  split at hz
  · split at hz
    · rename_i hl
      cases hz
      obtain rfl := rv.strv
      exact ⟨_, _, rfl, rfl, hl.1, hl.2, fun p hp => k p _ hp (same_new hp) ⟨_, upd_same, repStrs _⟩⟩
    · cases hz
  · cases hz
end
/-! ### t[::-1] -/
theorem places_rev (n : Nat) : Builtin.Slice.slicePlaces ((n : Int) - 1) (-1) (-1) = n := by
  unfold Builtin.Slice.slicePlaces
  have h1 : ¬ ((-1 : Int) > 0) := by omega
  simp only [h1, if_false]
  have e : (- -1 : Int) = 1 := by decide
  rw [e, Int.ediv_one]
  split <;> omega
theorem pick_rev (xs : Array Value) : ((List.range xs.size).filterMap fun (m : Nat) => xs[(((xs.size : Int) - 1) + (m : Int) * (-1)).toNat]?) = xs.toList.reverse := by
  have e : ∀ m ∈ List.range xs.size, xs[(((xs.size : Int) - 1) + (m : Int) * (-1)).toNat]? = xs.toList.reverse[m]? := fun m hm => by
    have hm := List.mem_range.mp hm
    rw [List.getElem?_reverse (by rw [Array.length_toList]; exact hm), Array.length_toList, Array.getElem?_toList]
    congr 1
    omega
  have hc : ∀ (l : List Nat) (f g : Nat → Option Value), (∀ m ∈ l, f m = g m) → l.filterMap f = l.filterMap g := fun l f g => by
    induction l with
    | nil => exact fun _ => rfl
    | cons x l ih => intro h; rw [List.filterMap_cons, List.filterMap_cons, h x List.mem_cons_self, ih fun m hm => h m (List.mem_cons_of_mem _ hm)]
  rw [hc _ _ _ e]
  have h := PySem.W.krv_all xs.toList.reverse.toArray
  simp only [List.size_toArray, List.length_reverse, Array.length_toList] at h
  refine Eq.trans ?_ h
  exact hc _ _ _ fun m _ => by simp
theorem applied_rev {prog : Program} {w : World} {A : Around} {E : Value → Shared → Prop} {s : Shared} {sl : Addr} {vl vu vs : Value} {n : Nat} {Q : Int × Int × Nat → Shared → Prop} (hs : s.heap.IsSliceOf sl vl vu vs) (pl : IsPart vl none) (pu : IsPart vu none) (ps : IsPart vs (some (-1)))
    (h : Q ((n : Int) - 1, -1, n) s) : wpAny (model prog w) A (Builtin.Slice.sliceApplied (.ref sl) (pure (n : Int))) Q E s := by
  obtain ⟨os, hos, hcs, hds⟩ := id hs
  unfold Builtin.Slice.sliceApplied Builtin.Slice.sliceFields
  refine wpAny_bind (wpAny_bind (wpAny_field hos hds (x := vl) rfl (wpAny_bind (wpAny_field hos hds (x := vu) rfl (wpAny_bind (wpAny_field hos hds (x := vs) rfl (wpAny_pure ?_)))))))
  refine wpAny_bind (HT.slicePart_ ps ?_)
  show wpAny _ _ (if ((-1 : Int) == 0) = true then _ else _) _ _ s
  rw [if_neg (by decide)]
  refine wpAny_bind (HT.slicePart_ pl (wpAny_bind (HT.slicePart_ pu (wpAny_bind (wpAny_pure ?_)))))
  show wpAny _ _ (pure ((n : Int) - 1, (-1 : Int), Builtin.Slice.slicePlaces ((n : Int) - 1) (-1) (-1))) _ _ s
  rw [places_rev]
  exact wpAny_pure h
theorem getItem_tuple_rev {prog : Program} {w : World} {A : Around} {E : Value → Shared → Prop} {s : Shared} {t sl : Addr} {items : Array Value} {vl vu vs : Value} {Q : Value → Shared → Prop} (ht : IsTup s.heap t items) (hs : s.heap.IsSliceOf sl vl vu vs) (pl : IsPart vl none) (pu : IsPart vu none) (ps : IsPart vs (some (-1)))
    (h : Q (.ref s.heap.objs.size) { s with heap := s.heap.push { cls := .type "tuple", data := .seq items.toList.reverse.toArray } })
    (hsz : items.size ≤ sizeLine) : wpAny (model prog w) A (getItem (.ref t) (.ref sl)) Q E s := by
  have htake : sizeOk (.seq items.toList.reverse.toArray) := by
    show items.toList.reverse.toArray.size ≤ sizeLine
    rw [List.size_toArray, List.length_reverse, Array.length_toList]
    exact hsz
  obtain ⟨os, hos, hcs, hds⟩ := id hs
  have hTs : s.TypeIs (.ref sl) "slice" := ⟨os, hos, hcs⟩
  unfold getItem
  try with_reducible refine wpAny_holding ?_
  first | refine wpAny_bind (wpAny_pure ?_) | skip
  refine wpAny_bind (wpAny_sequenceKey ht.typeIs (by decide) ?_)
  refine wpAny_bind (wpAny_callSpecial?_slot (name := Str.ofString "__getitem__") ht.typeIs PyProof.Rows.slot_tuple_getitem
    (wpAny_call_entry PyProof.Rows.slot_tuple_getitem ht.typeIs entry_tuple_getitem ?_ (args_tuple_getitem _ _)))
  show wpAny _ _ (Builtin.Tuple.tupleItemsOf (.ref t) >>= _) _ _ s
  refine wpAny_bind (tupleItemsOf_ ht ?_)
  refine wpAny_bind (wpAny_typeOf hTs ?_)
  rw [if_pos (by decide)]
  refine wpAny_bind (applied_rev hs pl pu ps ?_)
  have hno : ¬ ((((items.size : Int) - 1) == 0 && (-1 : Int) == 1 && items.size == items.size) = true) := by
    intro q
    rw [Bool.and_eq_true, Bool.and_eq_true] at q
    exact absurd q.1.2 (by decide)
  show wpAny _ _ (if (((items.size : Int) - 1) == 0 && (-1 : Int) == 1 && items.size == items.size) = true then _ else _) _ _ s
  rw [if_neg hno, pick_rev]
  first
    | exact wpAny_bind (m := Builtin.Tuple.tupleExact _) (wpAny_newObj_type (wpAny_pure ⟨_, rfl, wpAny_pure h⟩) htake)
    | exact wpAny_bind (m := Builtin.Tuple.tupleExact _) (wpAny_newObj_type (wpAny_bind (wpAny_pure (wpAny_pure ⟨_, rfl, wpAny_pure h⟩))) htake)
    | exact wpAny_bind (wpAny_bind (m := Builtin.Tuple.tupleExact _) (wpAny_newObj_type (wpAny_pure (wpAny_pure ⟨_, rfl, wpAny_pure h⟩)) htake))
    | exact wpAny_bind (wpAny_bind (m := Builtin.Tuple.tupleExact _) (wpAny_newObj_type (wpAny_pure ⟨_, rfl, wpAny_pure h⟩) htake))
section
variable {X : Cx} {a : Expr} {pos p1 p2 p3 : Pos} {k : Nat} {f : FE}
def revS (z : Str) : Str := ⟨z.cps.toList.reverse.toArray⟩
theorem idx_rev (n : Nat) : Builtin.Str.strSliceIndices none none (-1) n = (List.range n).map fun (k : Nat) => (((n : Int) - 1) + (-1) * (k : Int)).toNat := by
  simp only [Builtin.Str.strSliceIndices, sliceRange, show ¬ ((-1 : Int) > 0) from by decide, if_false]
  have e : (if (n : Int) - 1 > -1 then ((n : Int) - 1 - -1 - -1 - 1) / - -1 else 0) = (n : Int) := by
    have : - -(1 : Int) = 1 := by decide
    rw [this, Int.ediv_one]
    split <;> omega
  rw [e]
  rfl
theorem rev_picked (z : Str) : (⟨((Builtin.Str.strSliceIndices none none (-1) z.length).filterMap (z.cps[·]?)).toArray⟩ : Str) = revS z := by
  rw [idx_rev]
  unfold revS
  congr 2
  have e : ∀ m ∈ List.range z.length, z.cps[(((z.length : Int) - 1) + (-1) * (m : Int)).toNat]? = z.cps.toList.reverse[m]? := fun m hm => by
    have hm : m < z.cps.size := List.mem_range.mp hm
    rw [List.getElem?_reverse (by rw [Array.length_toList]; exact hm), Array.length_toList, Array.getElem?_toList]
    congr 1
    have : z.length = z.cps.size := rfl
    omega
  have hc : ∀ (l : List Nat) (f g : Nat → Option Nat), (∀ m ∈ l, f m = g m) → l.filterMap f = l.filterMap g := fun l f g => by
    induction l with
    | nil => exact fun _ => rfl
    | cons x l ih => intro h; rw [List.filterMap_cons, List.filterMap_cons, h x List.mem_cons_self, ih fun m hm => h m (List.mem_cons_of_mem _ hm)]
  rw [List.filterMap_map, hc _ ((fun x => z.cps[x]?) ∘ fun (k : Nat) => (((z.length : Nat) : Int) - 1 + -1 * (k : Int)).toNat) (fun m => z.cps.toList.reverse[m]?) e]
  have hz : z.length = z.cps.toList.reverse.length := by rw [List.length_reverse, Array.length_toList]; rfl
  rw [hz]
  generalize z.cps.toList.reverse = l
  induction l with
  | nil => rfl
  | cons x l ih =>
    rw [List.length_cons, List.range_succ_eq_map, List.filterMap_cons]
    simp only [List.getElem?_cons_zero, List.filterMap_map, Function.comp_def, List.getElem?_cons_succ]
    rw [ih]
def tRevT (K : PySem.W.Frag) (te : TE) : TE := fun σ H Q => te σ H fun x H1 => (∃ a xs, x = .ref a ∧ SqT K H1 a xs ∧ ∀ p, H1 p = none → Q (.ref p) (upd H1 p (.tup xs.reverse))) ∨ (∃ z, x = .str z ∧ z.length ≤ sizeLine ∧ Q (.str (revS z)) H1)
theorem pe_revT {e : Expr} {te : TE} (he : PE X e te) : PE X (.Subscript e (.Slice none none (some (.UnaryOp .USub (.Constant (.int 1) k p1) p2)) p3) pos) (tRevT X.F te) := by
  refine ⟨fun pins s σ H Q I h => ?_⟩
  refine Subscript_ (thn (he.run pins s σ H _ I h) fun v s1 ⟨x, H1, I1, r1, q1⟩ => ?_)
  have hst : PO X (some (.UnaryOp .USub (.Constant (.int 1) k p1) p2)) (tPart (tUn (rU fun i => .int (-i)) (tC (.int 1)))) := po_some (pe_un un_neg pe_int)
  refine wpAny_Slice (thn (po_none.run pins s1 σ H1 (fun o H2 => o = none ∧ H2 = H1) I1 ⟨rfl, rfl⟩) fun vl s2 ⟨l, H2, I2, pl, el, e2⟩ => ?_)
  subst el e2
  refine thn (po_none.run pins s2 σ H2 (fun o H3 => o = none ∧ H3 = H2) I2 ⟨rfl, rfl⟩) fun vu s3 ⟨u, H3, I3, pu, eu, e3⟩ => ?_
  subst eu e3
  refine thn (hst.run pins s3 σ H3 (fun o H4 => o = some (-1) ∧ H4 = H3) I3 ⟨1, rfl, -1, rfl, rfl, rfl⟩) fun vs s4 ⟨o, H4, I4, ps, eo, e4⟩ => ?_
  subst eo e4
  have I5 : Inv X pins σ H4 { s4 with heap := s4.heap.push { cls := .type "slice", data := .fields #[vl, vu, vs] } } := I4.kept (t' := s4.toks) fun b ob q => Heap.get?_push_of_some _ q
  show wpAny (model X.prog X.w) X.A (subscriptTail e (.Slice none none (some (.UnaryOp .USub (.Constant (.int 1) k p1) p2)) p3) v (.ref s4.heap.objs.size)) (EP X pins σ Q) X.xe { s4 with heap := s4.heap.push { cls := .type "slice", data := .fields #[vl, vu, vs] } }
  rcases q1 with ⟨a, xs, ex, hx, q⟩ | ⟨z, ex, hz, q⟩
  · subst ex
    cases r1
    obtain ⟨its, r, ht, hz⟩ := I5.tuple hx
    have hlen := r.length
    refine tail_any (ops := [.ref a, .ref s4.heap.objs.size]) ht.typeIs (PyProof.Rows.slot_tuple_getitem.lookup) ?_ (by with_unfolding_all rfl)
    refine getItem_tuple_rev ht (Heap.IsSliceOf.new _ vl vu vs) pl pu ps ?_ (by rw [List.size_toArray]; omega)
    refine ⟨.ref _, _, I5.laid (t' := s4.toks) (o := .tup xs.reverse) (fun b ob q => Heap.get?_push_of_some _ q) (Nat.le_refl _) ?_, rfl, q _ (I5.hok.fresh (Nat.le_refl _))⟩
    exact ⟨by rw [List.length_reverse]; exact hz, _, r.reverse, IsTup.new _ _⟩
  · subst ex
    obtain ⟨t, rfl⟩ := r1
    obtain ⟨l, hl1, hl2⟩ := IsPart.raw pl
    obtain ⟨u, hu1, hu2⟩ := IsPart.raw pu
    obtain ⟨st, hs1, hs2⟩ := IsPart.raw ps
    have hl : l = none := by cases l with | none => rfl | some _ => cases hl2
    have hu : u = none := by cases u with | none => rfl | some _ => cases hu2
    subst hl hu
    refine tail_any (ops := [.str z t, .ref s4.heap.objs.size]) (typeIs_str _ _ _) F.slot_str_getitem.lookup ?_ (by with_unfolding_all rfl)
    obtain ⟨os, hos, hcs, hds⟩ := Heap.IsSliceOf.new s4.heap vl vu vs
    refine wpAny_getItem_str_slice (l := none) (u := none) (st := st) ⟨os, hos, hcs, by rw [hds, hl1, hu1, hs1]⟩ (by rw [hs2]; rfl) ?_
    have hp : slicePicked z none none st = Builtin.Str.strSliceIndices none none (-1) z.length := by unfold slicePicked; rw [hs2]; rfl
    unfold sliceMade
    rw [hs2, hp, if_neg (by intro h; rw [Bool.and_eq_true] at h; exact absurd h.1 (by decide)), rev_picked]
    have hzl : (revS z).length ≤ sizeLine := by
      have : (revS z).length = z.length := by
        show (z.cps.toList.reverse.toArray).size = z.cps.size
        rw [List.size_toArray, List.length_reverse, Array.length_toList]
      omega
    exact ⟨hzl, .str _, _, I5.tok _, ⟨_, rfl⟩, q⟩
def eRev (f : FE) : FE := fun ss => (f ss).bind fun d s1 => match d with
  | .tuple ds => .ok (.tuple ds.reverse) s1
  | .str z => if z.length ≤ sizeLine then .ok (.str (revS z)) s1 else .no
  | _ => .no
theorem xrev (h : PE X a (tD X.F f)) : PE X (.Subscript a (.Slice none none (some (.UnaryOp .USub (.Constant (.int 1) k p1) p2)) p3) pos) (tD X.F (eRev f)) := by
  refine (pe_revT h).imp fun σ H Q q => ?_
  obtain ⟨fx, ss, d, s3, fr, e, k⟩ := q
  obtain ⟨x, s1, e1, e⟩ := bind_ok e
  split at e
  · cases e
    refine ⟨fx, ss, _, _, fr, e1, fun v H1 k1 f1 r1 => ?_⟩
    obtain ⟨q, xs, rfl, h1, r1⟩ := r1.tupv
    refine .inl ⟨q, xs, rfl, h1, fun p hp => k _ _ (k1.trans (.same (same_new hp))) (f1.same (same_new hp)) (.tup (.inl (.inl upd_same)) (r1.reverse.kp (.same (same_new hp))))⟩
  · split at e
    · rename_i hz
      cases e
      exact ⟨fx, ss, _, _, fr, e1, fun v H1 k1 f1 r1 => .inr ⟨_, r1.strv, hz, k _ _ k1 f1 (.str _)⟩⟩
    · cases e
  · cases e
end
end Dt

set_option maxHeartbeats 4000000
/-! Dt13: sorted(set(xs)) of a list of ints. The walk of set(xs) is HandS.SetFor's of a tuple, turned to a list. -/
namespace DtS
open PySem PySem.Spec PyProof.Rows L2
section
variable {P : Program} {w : World} {A : Around} {E : Value → Shared → Prop} {s : Shared}
theorem call_set_lstI {l : Addr} {items : Array Value} (ns : List Int) {Q : Value → Shared → Prop} (hh : A.handled = none) (hl : s.heap.IsList l items) (hit : IntsAre items.toList ns) (hb : ns.length + 1 < scanBound)
    (h : ∀ (h' : Heap) (tk c : Nat), SetR w h' s.heap.objs.size (fun j => decide (j ∈ ns)) c → c ≤ ns.length → (∀ b o, s.heap.get? b = some o → h'.get? b = some o) → Q (.ref s.heap.objs.size) { s with heap := h', toks := tk }) :
    wpAny (model P w) A (call (.type "set") [.ref l]) Q E s := by
  have hisz : items.size = ns.length := by
    have q := IntsAre.length hit
    rw [Array.length_toList] at q
    exact q
  obtain ⟨c, tl, hmro⟩ := F.called_set.mro
  have hmade := F.called_set.made
  have hsub := F.called_set.sub
  refine wpAny_call (codeAny_of_tree ?_)
  show wpAny _ _ (callAny (.type "set") _) _ _ _
  refine wpAny_pure ⟨Code.quiet_builtin _ (by decide +kernel), codeAny_builtin F.entry_type_call ?_⟩
  rw [Around.under_plain (weight_type_call_type "set" [.ref l] []) rfl]
  have h1 := F.called_set.notType
  have h2 := F.called_set.canCreate
  have hct := F.typeCall_set_1 (.ref l)
  repeat (any_goals (first | assumption | wp_step))

  refine codeAny_mono (code_set_led1 (.ref l) (E := E) (Q₁ := fun obj s₁ => obj = .ref s.heap.objs.size ∧ s₁ = { s with heap := s.heap.push { cls := .type "set", dict := none, data := .set #[] 0 (.fresh 0 0 (!w.params.followText "set-order")) } }) ⟨rfl, rfl⟩) fun r s₁ hr => ?_
  cases r with
  | error e => exact hr
  | ok fl =>
    cases fl with
    | ret obj =>
      obtain ⟨rfl, rfl⟩ := hr
      have hS : (s.heap.push { cls := .type "set", dict := none, data := .set #[] 0 (.fresh 0 0 (!w.params.followText "set-order")) }).get? s.heap.objs.size = some { cls := .type "set", dict := none, data := .set #[] 0 (.fresh 0 0 (!w.params.followText "set-order")) } := Heap.get?_push_size _ rfl
      have hT : Shared.TypeIs { s with heap := s.heap.push { cls := .type "set", dict := none, data := .set #[] 0 (.fresh 0 0 (!w.params.followText "set-order")) } } (.ref s.heap.objs.size) "set" := ⟨_, hS, rfl⟩
      have hli := F.called_set.init.lookup
      have hbi := F.called_set.init.bind (.ref s.heap.objs.size)
      repeat (any_goals (first | assumption | wp_step))

      refine codeAny_mono (codeAny_call_builtin (R := wants (fun r s₂ => r = .none ∧ ∃ h' tk c, s₂ = { s with heap := h', toks := tk } ∧ SetR w h' s.heap.objs.size (fun j => decide (j ∈ ns)) c ∧ c ≤ ns.length ∧
          (∀ b o, s.heap.get? b = some o → h'.get? b = some o)) E) F.called_set.init.plain F.entry_set_init (check_set_init_1 hT ?_)) fun r₂ s₂ hr₂ => ?_
      · obtain ⟨ol, hol, hcl, nl, hdl⟩ := hl
        obtain ⟨ocls, odict, odata, oslots⟩ := ol
        simp only at hcl hdl
        subst hcl; subst hdl
        have hol' : (s.heap.push { cls := .type "set", dict := none, data := .set #[] 0 (.fresh 0 0 (!w.params.followText "set-order")) }).get? l = some { cls := .type "list", dict := odict, data := .seq items nl, slots := oslots } := Heap.get?_push_of_some _ hol
        have hsls := F.sub_list_set
        have hslf := F.sub_list_frozenset
        have hne : (Value.type "list" == Value.type "dict") = false := by decide
        have hl1 : (s.heap.push { cls := .type "set", dict := none, data := .set #[] 0 (.fresh 0 0 (!w.params.followText "set-order")) }).IsList l items := ⟨_, hol', rfl, nl, rfl⟩
        unfold Builtin.«set.__init__» noKeywords Builtin.Frozenset.updateFrom
        generalize hPI : pyIter = PI
        wp_walk
        subst hPI

        refine wpAny_pyIter_list hl1 ?_
        refine wpAny_bind (wpAny_runValue ?_)
        have hlS : l < s.heap.objs.size := Heap.lt_size hol
        have hh3 : A.in1.in1.in1.handled = none := by simp [hh]
        have hz1 : (s.heap.push { cls := .type "set", dict := none, data := .set #[] 0 (.fresh 0 0 (!w.params.followText "set-order")) }).objs.size = s.heap.objs.size + 1 := Heap.size_push ..
        have hneI : l ≠ (s.heap.push { cls := .type "set", dict := none, data := .set #[] 0 (.fresh 0 0 (!w.params.followText "set-order")) }).objs.size := by
          rw [Heap.size_push]; exact Nat.ne_of_lt (Nat.lt_succ_of_lt hlS)
        have hSf : s.heap.objs.size ∉ [(s.heap.push { cls := .type "set", dict := none, data := .set #[] 0 (.fresh 0 0 (!w.params.followText "set-order")) }).objs.size, l] := by
          rw [Heap.size_push]; simp only [List.mem_cons, List.mem_singleton, List.not_mem_nil, or_false, not_or]
          exact ⟨Nat.ne_of_lt (Nat.lt_succ_self _), Nat.ne_of_gt hlS⟩
        have hval : ∀ (i : Nat) (v : Value), items[i]? = some v → ∃ k t, ns[i]? = some k ∧ v = .int k t := fun i v hv => by
          have hi : i < ns.length := by rw [← hisz]; exact (Array.getElem?_eq_some_iff.mp hv).1
          obtain ⟨t, e⟩ := PyProof.Rows.IntsAre.int_at hit i v (by rw [Array.getElem?_toList]; exact hv)
          refine ⟨ns[i], t, List.getElem?_eq_getElem hi, ?_⟩
          rw [e, List.getD_eq_getElem?_getD, List.getElem?_eq_getElem hi] <;> rfl
        refine set_update_ints ((Walks.list hh3 _ l hneI items).toS) s.heap.objs.size
          hSf ns hisz hb hval (items.size - 0) 0 _ (by omega) (Nat.zero_le _)
          ⟨⟨_, Heap.get?_push_size _ rfl, rfl, rfl⟩, (hl1.push _)⟩ ?hS0 ?hR
        case hS0 =>
          have hget : ((s.heap.push { cls := .type "set", dict := none, data := .set #[] 0 (.fresh 0 0 (!w.params.followText "set-order")) }).push { cls := .type "list_iterator", data := .fields #[.ref l, .int 0 0] }).get? s.heap.objs.size
              = some { cls := .type "set", dict := none, data := .set #[] 0 (.fresh 0 0 (!w.params.followText "set-order")) } := Heap.get?_push_of_some _ hS
          exact ⟨0, Nat.le_refl 0, setR_new_at hget⟩
        case hR =>
          intro s' c' hm hc' hS'
          obtain ⟨h', g2, d', tk', os'⟩ := s'
          have eg : g2 = s.gens := hm.gens
          have ed : d' = s.drawn := hm.drawn
          have eo : os' = s.os := hm.os
          subst eg; subst ed; subst eo
          show wpAny _ _ _ _ _ _
          refine wpAny_pure ?_
          show wpAny _ _ (ret Value.none) _ _ _
          rw [hisz] at hc'
          refine wpAny_pure ⟨rfl, h', tk', c', rfl, hS', hc', fun b o e => ?_⟩
          have hb0 : b < s.heap.objs.size := Heap.lt_size e
          have hb1 : b ≠ s.heap.objs.size := Nat.ne_of_lt hb0
          have hb2 : b ≠ (s.heap.push { cls := .type "set", dict := none, data := .set #[] 0 (.fresh 0 0 (!w.params.followText "set-order")) }).objs.size := by
            rw [Heap.size_push]; exact Nat.ne_of_lt (Nat.lt_succ_of_lt hb0)
          exact hm.heap b o (by simp only [List.mem_cons, List.mem_singleton, List.not_mem_nil, or_false, not_or]; exact ⟨hb1, hb2⟩) (Heap.get?_push_of_some _ (Heap.get?_push_of_some _ e))

      · cases r₂ with
        | error e => exact hr₂
        | ok fl₂ =>
          cases fl₂ with
          | ret r =>
            obtain ⟨rfl, h', tk, c', rfl, hS', hc', hk'⟩ := hr₂
            repeat (any_goals (first | assumption | wp_step))
            exact h _ _ _ hS' hc' hk'
          | _ => exact hr₂.elim
    | _ => exact hr.elim

end
end DtS

/-! Dt14: the reading of sorted(set(xs)), ints, fewer than 64. -/
namespace Dt
open PySem PySem.Spec L2
open PyProof.Rows hiding St
def insU (x : Int) : List Int → List Int
  | [] => [x]
  | y :: r => if x < y then x :: y :: r else if x = y then y :: r else y :: insU x r
/-- in order, each once -/
def uset (ns : List Int) : List Int := ns.foldr insU []
theorem insU_mem (x k : Int) : ∀ l : List Int, k ∈ insU x l ↔ k = x ∨ k ∈ l
  | [] => by simp [insU]
  | y :: r => by
    unfold insU
    split
    · simp
    · split
      · rename_i h; subst h; simp
      · simp [insU_mem x k r]
        constructor
        · rintro (h | h | h)
          · exact .inr (.inl h)
          · exact .inl h
          · exact .inr (.inr h)
        · rintro (h | h | h)
          · exact .inr (.inl h)
          · exact .inl h
          · exact .inr (.inr h)
theorem insU_pair (x : Int) : ∀ l : List Int, l.Pairwise (· < ·) → (insU x l).Pairwise (· < ·)
  | [], _ => by simp [insU]
  | y :: r, h => by
    obtain ⟨h1, h2⟩ := List.pairwise_cons.mp h
    unfold insU
    split
    · rename_i hx
      refine List.pairwise_cons.mpr ⟨fun z hz => ?_, h⟩
      rcases List.mem_cons.mp hz with rfl | hz
      · exact hx
      · exact Int.lt_trans hx (h1 z hz)
    · split
      · exact h
      · refine List.pairwise_cons.mpr ⟨fun z hz => ?_, insU_pair x r h2⟩
        rcases (insU_mem x z r).mp hz with rfl | hz
        · omega
        · exact h1 z hz
theorem uset_mem (k : Int) : ∀ ns : List Int, k ∈ uset ns ↔ k ∈ ns
  | [] => Iff.rfl
  | n :: ns => by
    show k ∈ insU n (uset ns) ↔ _
    rw [insU_mem, uset_mem k ns, List.mem_cons]
theorem uset_pair : ∀ ns : List Int, (uset ns).Pairwise (· < ·)
  | [] => .nil
  | n :: ns => insU_pair n _ (uset_pair ns)
theorem pair_ext : ∀ {l m : List Int}, l.Pairwise (· < ·) → m.Pairwise (· < ·) → (∀ k, k ∈ l ↔ k ∈ m) → l = m
  | [], [], _, _, _ => rfl
  | [], y :: m, _, _, e => absurd ((e y).mpr List.mem_cons_self) (by simp)
  | x :: l, [], _, _, e => absurd ((e x).mp List.mem_cons_self) (by simp)
  | x :: l, y :: m, h, k, e => by
    obtain ⟨h1, h2⟩ := List.pairwise_cons.mp h
    obtain ⟨k1, k2⟩ := List.pairwise_cons.mp k
    have a : x = y := by
      rcases List.mem_cons.mp ((e x).mp List.mem_cons_self) with h | h
      · exact h
      · rcases List.mem_cons.mp ((e y).mpr List.mem_cons_self) with h' | h'
        · exact h'.symm
        · have := k1 x h; have := h1 y h'; omega
    subst a
    refine congrArg (x :: ·) (pair_ext h2 k2 fun z => ⟨fun hz => ?_, fun hz => ?_⟩)
    · rcases List.mem_cons.mp ((e z).mp (List.mem_cons_of_mem _ hz)) with rfl | h'
      · have := h1 z hz; omega
      · exact h'
    · rcases List.mem_cons.mp ((e z).mpr (List.mem_cons_of_mem _ hz)) with rfl | h'
      · have := k1 z hz; omega
      · exact h'
section
variable {X : Cx} {a : Expr} {p p2 q pos : Pos} {f : FE}
def tSS (K : PySem.W.Frag) (ta : TE) : TE := fun σ H Q => ta σ H fun x H1 => ∃ (l : Addr) (ns : List Int), x = .ref l ∧ SqL K H1 l (ns.map V.int) ∧ ns.length < 64 ∧ ∀ p, H1 p = none → Q (.ref p) (upd H1 p (.lst ((uset ns).map V.int)))
theorem pe_ss {ta : TE} (hc : X.calm = true) (hg : Gl X "sorted") (hm : X.mg "sorted" = none) (hg2 : Gl X "set") (hm2 : X.mg "set" = none) (ha : PE X a ta)
    (na : starEach [a] X.env = (false, eval a X.env) :: starEach [] X.env := by rfl) : PE X (.Call (.Name "sorted" p) [.Call (.Name "set" p2) [a] [] q] [] pos) (tSS X.F ta) := by
  refine ⟨fun pins s σ H Q I h => ?_⟩
  refine Call_ (ld_blt I hg hm PyProof.Rows.boot_sorted ?_)
  refine PyProof.Rows.callWith_builtin1 (PyProof.Rows.args_cons ?_ rfl) rfl rfl
  refine Call_ (ld_blt I hg2 hm2 boot_set ?_)
  refine PyProof.Rows.callWith_type1 (PyProof.Rows.args_cons (thn (ha.run pins s σ H _ I h) fun v s1 ⟨x, H1, I1, r1, q1⟩ => PyProof.Rows.args_nil ?_) na) na rfl
  obtain ⟨l, ns, rfl, hq, hl, k⟩ := q1
  cases r1
  obtain ⟨its, r, ht, hz⟩ := I1.list hq
  have hi : IntsAre its.toArray.toList ns := by simpa using RZ.intsAre_vals r
  refine DtS.call_set_lstI ns (I1.ok.hd hc) ht.isList hi (by unfold scanBound; omega) fun h' tk c R hcn hk => PyProof.Rows.args_nil ?_
  have R : SetR X.w ({ s1 with heap := h', toks := tk } : Shared).heap s1.heap.objs.size (fun j => decide (j ∈ ns)) c := R
  have I2 : Inv X pins σ H1 { s1 with heap := h', toks := tk } := I1.kept fun b o e => hk b o e
  generalize s1.heap.objs.size = q0 at R ⊢
  generalize ({ s1 with heap := h', toks := tk } : Shared) = s2 at I2 R ⊢
  refine sorted_set (s := s2) R (I2.ok.hd hc) (by omega) fun s' p out c ms kk g o hp hgt hi2 hs hm3 hl3 => ?_
  have he : ms = uset ns := pair_ext hs (uset_pair ns) fun k => by rw [hm3, uset_mem, decide_eq_true_eq]
  subst he
  have hlen : ((uset ns).map V.int).length ≤ sizeLine := by rw [List.length_map, hl3, sizeLine_eq]; omega
  have hn : H1 p = none := I2.hok.fresh hp
  have J : Inv X pins σ (upd H1 p (.lst ((uset ns).map V.int))) { s2 with heap := s'.heap, gens := s'.gens, drawn := s'.drawn, toks := s'.toks } :=
    I2.call (ch := []) (Un.laid kk hp hn) (I2.hok.laid kk hp ⟨hlen, out.toList, c, vals_of_ints hi2, hgt⟩) (by rw [g]; exact I2.bare) (fun _ z => nomatch z)
  have e : s' = { s2 with heap := s'.heap, gens := s'.gens, drawn := s'.drawn, toks := s'.toks } := by
    cases s'
    cases s2
    cases o
    rfl
  rw [e]
  exact ⟨.ref p, _, J, rfl, k p hn⟩
def nSS (f : FE) : FN := fun ss => (f ss).bind fun d s1 => match d with
  | .list ds => match ds.mapM asI with
    | some ns => if ns.length < 64 then .ok (.lst ((uset ns).map .int)) s1 else .no
    | none => .no
  | _ => .no
theorem xss (hc : X.calm = true) (hm : X.mg "sorted" = none) (hm2 : X.mg "set" = none) (ha : PE X a (tD X.F f)) (hg : Gl X "sorted" := by rfl) (hg2 : Gl X "set" := by rfl)
    (na : starEach [a] X.env = (false, eval a X.env) :: starEach [] X.env := by rfl) : PE X (.Call (.Name "sorted" p) [.Call (.Name "set" p2) [a] [] q] [] pos) (tN X.F (nSS f)) := by
  refine (pe_ss hc hg hm hg2 hm2 ha na).imp fun σ H Q w => ?_
  obtain ⟨fx, ss, d, s3, fr, e, k⟩ := w
  obtain ⟨x, s1, e1, e⟩ := bind_ok e
  split at e
  · split at e
    · rename_i ns hns
      split at e
      · rename_i hl
        cases e
        refine ⟨fx, ss, _, _, fr, e1, fun v H1 k1 f1 r1 => ?_⟩
        obtain ⟨l, xs, rfl, g1, r1⟩ := r1.lstv
        rw [intsOf hns] at r1
        rw [r1.ints] at g1
        exact ⟨l, ns, rfl, g1.sq, hl, fun p hp => k p _ (k1.trans (.same (same_new hp))) (f1.same (same_new hp)) ⟨_, upd_same, rep_ints _⟩ (f1.newAt hp)⟩
      · cases e
    · cases e
  · cases e
end
end Dt

/-! Dt15: dicts of one's own. -/
namespace Dt
open PySem PySem.Spec L2
open PyProof.Rows hiding St
section
variable {X : Cx} {a b : Expr} {es : List Expr} {pos p : Pos} {f g : FE} {fl : FL} {x : Str}
/-- {} -/
def nDct : FN := fun ss => .ok (.dct []) ss
def nDnt : FN := fun ss => .ok (.dnt []) ss
theorem xdct : PE X (.Dict [] [] pos) (tN X.F nDct) := by
  refine pe_dnewK.imp fun σ H Q q => ?_
  obtain ⟨fx, ss, d, s3, fr, e, k⟩ := q
  cases e
  exact fun p hp => k p _ (.same (same_new hp)) (fr.new hp) ⟨[], [], upd_same, .nil, rfl⟩ (fr.newAt hp)
theorem nd_empty (P : Program) (w : World) (h : Heap) (hb : sysModules < h.objs.size) {H' : Hp} : ObjOk P w H' (h.push { cls := .type "dict", data := .dict #[] }) h.objs.size (NdO w h.objs.size [] []) := by
  have lo : (h.objs.size == sysModules) = false := by
    rw [beq_eq_false_iff_ne]
    exact fun e => absurd (e ▸ hb) (Nat.lt_irrefl _)
  exact nd_ok (P := P) (xs := []) (Nat.zero_le _) lo rfl .nil (Heap.DictOfH.new (knd := nestedKind P w) h)
theorem xdnt : PE X (.Dict [] [] pos) (tN X.F nDnt) := by
  refine ⟨fun pins s σ H Q I q => ?_⟩
  obtain ⟨fx, ss, d, s3, fr, e, k⟩ := q
  cases e
  have hp : H s.heap.objs.size = none := I.hok.fresh (Nat.le_refl _)
  refine wpAny_Dict_empty ⟨.ref s.heap.objs.size, _, I.laid (a := s.heap.objs.size) (o := NdO X.w s.heap.objs.size [] []) (t' := s.toks) (fun _ _ q => Heap.get?_push_of_some _ q) (Nat.le_refl _) (nd_empty X.prog X.w s.heap I.big), rfl, ?_⟩
  exact k _ _ (.same (same_new hp)) (fr.new hp) ⟨[], [], [], upd_same, rfl, .nil, .nil, rfl⟩ (fr.newAt hp)
/-- d[k] = v -/
def kvO : O → Option (Bool × List (D × D))
  | .dct kvs => some (false, kvs)
  | .dnt kvs => some (true, kvs)
  | _ => none
theorem kvO_some {o : O} {n : Bool} {kvs : List (D × D)} (h : kvO o = some (n, kvs)) : o = mkO n kvs := by
  cases o <;> cases h <;> rfl
def rSetD (K : Fg) : V → V → V → Hp → (Hp → Prop) → Prop := fun o i v H Q => ∃ a n kvs k e, o = .ref a ∧ OwnAt K H a (mkO n kvs) ∧ Rep K H i k ∧ kGood n k = true ∧ Rep K H v e ∧ kvs.length < sizeLine ∧
  ∀ ho, (Kp H (upd H a ho) → OwnAt K (upd H a ho) a (mkO n (dput kvs k e))) → Q (upd H a ho)
theorem set_dict (hu : X.A.units + 64 < cLine) : PSet X (rSetD X.F) := by
  intro pins s σ H o i v ov iv u Q I ro ri rv ⟨a, n, kvs, k, e, eo, g, hk, kg, hv, hl, q⟩
  subst eo
  obtain rfl : ov = Value.ref a := ro
  exact da_set hu I g hk kg ri rv hv hl fun ho s' I' w => ⟨_, I', q ho w⟩
def sSetD (i : Nat) (fi fv : FE) : FS := fun ss => match fv ss with
  | .no => .no
  | .ok d s1 => match (objAt s1 i).bind kvO with
    | some _ => match fi s1 with
      | .ok k s2 => match s2[i]? with
        | some s => match s.obj.bind kvO with
          | some (n, kvs) => if kGood n k = true ∧ kvs.length < sizeLine then .nx (s2.set i (s.put (mkO n (dput kvs k d)))) else .no
          | none => .no
        | none => .no
      | .no => .no
    | none => .no
theorem ssetD (i : Nat) {st : Stmt} {fi fv : FE} (h : PS X st (tAsg (tD X.F fv) (gSub (tVar i) (tD X.F fi) (rSetD X.F)))) : PS X st (tS X.F (sSetD i fi fv)) := by
  refine h.imp fun E σ H q => ?_
  obtain ⟨fx, ss, fr, k⟩ := tS_iff.mp q
  unfold sSetD at k
  split at k
  · exact k.elim
  rename_i d s1 e1
  split at k
  rotate_left
  · exact k.elim
  rename_i o0 ho0
  split at k
  rotate_left
  · exact k.elim
  rename_i kk s2 e2
  split at k
  rotate_left
  · exact k.elim
  rename_i s es_
  split at k
  rotate_left
  · exact k.elim
  rename_i n kvs ho
  split at k
  rotate_left
  · exact k.elim
  rename_i hc
  obtain ⟨u, eo2, ku⟩ := Option.bind_eq_some_iff.mp ho
  obtain ⟨u0, eo0, _⟩ := Option.bind_eq_some_iff.mp ho0
  have ku := kvO_some ku
  subst ku
  refine ⟨fx, ss, d, s1, fr, e1, fun v H1 k1 f1 r1 => ?_⟩
  obtain ⟨s0, e0, eo⟩ := objAt_some eo0
  obtain ⟨q, h1, _, _⟩ := (f1.slot i s0 e0).obj eo
  refine ⟨_, h1, fx, s1, _, s2, f1, e2, fun w H2 k2 f2 r2 => ?_⟩
  obtain ⟨q2, z1, z2, _⟩ := (f2.slot i s es_).obj eo2
  rw [h1] at z1
  cases z1
  refine ⟨q, n, kvs, kk, d, rfl, z2, r2, hc.1, r1.kp k2, hc.2, fun ho hw => ?_⟩
  obtain ⟨f3, k3⟩ := f2.mut (o' := mkO n (dput kvs kk d)) (u := ho) es_ eo2 h1 hw
  exact k _ _ ((k1.trans k2).trans k3) f3
/-- d[k] -/
def rIxOD (K : Fg) : R2 := fun x y H Q => ∃ a n kvs k d, x = .ref a ∧ DAt K H a n kvs ∧ Rep K H y k ∧ kGood n k = true ∧ look kvs k = some d ∧ ∀ v, Rep K H v d → Q v H
theorem ixOD (hu : X.A.units + 64 < cLine) : IxR X (rIxOD X.F) := by
  intro value slice pins s σ H x y v u Q I rx ry ⟨a, n, kvs, k, d, ex, g, hk, kg, l, q⟩ hs
  subst ex
  obtain rfl : v = Value.ref a := rx
  exact ixd_of (da_type I g) PySem.F.slot_dict_getitem.lookup hs (da_getItem hu I g hk kg ry l fun v w s' I' r' h' => ⟨v, H, I', r', q v h'⟩)
def eOixD (i : Nat) (f : FE) : FE := fun ss => match objAt ss i with
  | some _ => (f ss).bind fun k s1 => match (objAt s1 i).bind kvO with
    | some (n, kvs) => if kGood n k = true then .of (look kvs k) s1 else .no
    | none => .no
  | none => .no
theorem xoixD (i : Nat) (h : PE X a (tOp (rIxOD X.F) (tVar i) (tD X.F f))) : PE X a (tD X.F (eOixD i f)) := by
  refine h.imp fun σ H Q q => ?_
  obtain ⟨fx, ss, d, s3, fr, e, k⟩ := q
  unfold eOixD at e
  split at e
  rotate_left
  · cases e
  rename_i o ho
  obtain ⟨s0, e0, eo⟩ := objAt_some ho
  obtain ⟨q, h1, _, _⟩ := (fr.slot i s0 e0).obj eo
  obtain ⟨y, s1, e1, e⟩ := bind_ok e
  refine ⟨_, h1, fx, ss, y, s1, fr, e1, fun w H1 k1 f1 r1 => ?_⟩
  split at e
  rotate_left
  · cases e
  rename_i n kvs ho1
  split at e
  rotate_left
  · cases e
  rename_i hg
  obtain ⟨eg, rfl⟩ := of_ok e
  obtain ⟨u, eu, ku⟩ := Option.bind_eq_some_iff.mp ho1
  have ku := kvO_some ku
  subst ku
  obtain ⟨s', a1, a2⟩ := objAt_some eu
  obtain ⟨q2, z1, z2, _⟩ := (f1.slot i s' a1).obj a2
  rw [h1] at z1
  cases z1
  exact ⟨q, n, kvs, y, d, rfl, z2.dat, r1, hg, eg, fun v hv => k v H1 k1 f1 hv⟩
end
end Dt

/-! Dt16: folded(text): two replaces; their texts' tokens are told apart once one token is given out. -/
namespace Dt
open PySem PySem.Spec L2
open PyProof.Rows hiding St
def foldS (x : Str) : Str := Txt.replace (Txt.replace x "~" "~~") "\n" "~n"
/-- its promise: one token is given out -/
def FoldRun (P : Program) (w : World) (K : PySem.W.Frag) (mg : Str → Option Value) (base : Heap) (k : Nat) (f : Addr) : Prop :=
  ∀ (A : Around) (outer : List Env) (s : Shared) (H : Hp) (x : Str) (tx : Tok) (Q : VK) (E : XK), Room k A → Env0 P w K mg base A outer s H → 1 ≤ s.toks →
    x.length ≤ 100000 → Q (.str (foldS x)) H → codeAny (model P w) A (.call (.ref f) ⟨[.str x tx], []⟩) (CR CX0 outer P w H s Q E) s
theorem fold_run {P : Program} {w : World} {K : PySem.W.Frag} {mg : Str → Option Value} {base : Heap} {k : Nat} {f : Addr} {name qual : Str} {params : Arguments} {scope : Scope} {dV kV doc pm cdv ct oc : Value} {an od : Option Addr}
    {osl : Array (Option Value)} {N : List Str} {p1 a1 c1 q1 q2 a2 c2 q3 q4 rpos : Pos} {j1 j2 j3 j4 : Nat} {a0 : Str} {body : List Stmt}
    (hbd : body = [.Return (some (.Call (.Attribute (.Call (.Attribute (.Name a0 p1) "replace" a1) [.Constant (.str "~") j1 q1, .Constant (.str "~~") j2 q2] [] c1) "replace" a2) [.Constant (.str "\n") j3 q3, .Constant (.str "~n") j4 q4] [] c2)) rpos])
    (lk : K.lookup f = some ⟨oc, od, .func (PySem.W.fnOf name qual params body scope dV kV doc pm an cdv ct), osl⟩) (hcd : PySem.W.codeIn K cdv qual = true) (S : FnScope N [a0] scope)
    (hb : ∀ us : List Value, us.length = 1 → bindArgs (PySem.W.fnOf name qual params body scope dV kV doc pm an cdv ct) ⟨us, []⟩ = pure ([a0].zip us))
    (h0 : scope.names.lookup a0 = some .local) (d0 : (a0 == ("__debug__" : Str)) = false) (hl1 : (a1.endLine == c1.line) = true) (hl2 : (a2.endLine == c2.line) = true) : FoldRun P w K mg base (k + 1) f := by
  intro A outer s H x tx Q E hr e0 htok hx q
  subst hbd
  have KX : K.In s.heap := e0.mod.kin.keeps fun b o e => (e0.bs b o e).1
  have lim : s.heap.NoLimit := e0.mod.nolimit.keeps fun b o e => (e0.bs b o e).1
  have hkind : ∀ v ∈ [a0].zip [Value.str x tx], scope.names.lookup v.1 = some .local ∨ (scope.names.lookup v.1 = some .cell ∧ ((cellsFrom (s.heap.objs.size + 1) scope.names []).lookup v.1).isSome = true) := fun ⟨n, v⟩ hy => by
    rcases S.par n (List.of_mem_zip hy).1 with q | q
    · exact .inl q
    · exact .inr ⟨q, PySem.W.cellsFrom_some _ _ _ (.inl q)⟩
  refine codeAny_call_function hr.depth (KX _ _ lk) rfl S.co S.gen rfl (PySem.W.codeRec_of KX hcd) (BindsTo.of_eq (hb [.str x tx] rfl) _ _ _ _ ?_)
  refine wpAny_with_toks (n := 1) htok ?_
  refine wpAny_newFunctionEnv_cells S.kind hkind fun env he s1 xx ht1 => ?_
  subst he
  refine ⟨lim.keeps xx.toInCall.keep, codeAny_func ?_⟩
  have rv : Vals [V.str x] [Value.str x tx] := .cons ⟨tx, rfl⟩ .nil
  have I : Inv (cxOf CX0 P w K mg base N qual scope f cdv A outer s H E) [] (start N [.str x]) H s1 := inv_start S hr.hd e0 rfl rv xx
  have hn := xx.toInCall.ns
  have nd : [a0].Nodup := by simp
  have m0 := bindL_get (kindOf := (envOfC qual scope s.heap.objs.size f cdv).kindOf) (x := a0) (v := Value.str x tx) (P := [a0]) (vs := [.str x tx]) (i := 0) (m := fun _ => none) nd rfl rfl h0
  have fin : ∀ {σ' : St} {H' : Hp} {v : V} {r : Value} {s' : Shared}, Inv (cxOf CX0 P w K mg base N qual scope f cdv A outer s H E) [] σ' H' s' → RelV v r → Q v H' → CE outer P w H s Q r s' :=
    fun {σ' H' v r s'} J rv q => ⟨v, H', J.os, J.bare, J.base, J.hok, rv, q⟩
  have l1 : (Txt.replace x "~" "~~").length ≤ 400000 := by
    have := TK.replace_len x "~" "~~"
    have e : ("~~" : Str).length = 2 := by decide +kernel
    rw [e] at this
    omega
  refine wpAny_execs_cons (wpAny_Return_some (PySem.Call_method2 rfl rfl hl2 (PySem.Call_method2 rfl rfl hl1 (wpAny_Name (wpAny_loadName_local S.kind h0 hn m0 ?_) d0))))
  refine ⟨"str", _, F.plainAttrs_str, F.slot_str_replace, F.type_str_replace, typeIs_str _ _ _, (fun _ e => nomatch e), Calls.callWith_builtin rfl (Calls.evalArgs_plain (Calls.spliced_cons (Calls.Constant_str (Calls.spliced_cons (Calls.Constant_str (Calls.spliced_nil ?_))))))⟩
  have t1 : s1.toks ≠ 0 := by omega
  refine wpAny_with_toks (n := 1) (by show 1 ≤ s1.toks + 1 + 1; omega) ?_
  refine PySem.SC.replace t1 (by show s1.toks + 1 ≠ 0; omega) (by show s1.toks ≠ s1.toks + 1; omega) (by decide +kernel) (by
    have e : ("~~" : Str).length = 2 := by decide +kernel
    rw [e]; omega) fun t' k' hk' => ?_
  have hk2 : 1 ≤ k' := hk'
  refine ⟨"str", _, F.plainAttrs_str, F.slot_str_replace, F.type_str_replace, typeIs_str _ _ _, (fun _ e => nomatch e), Calls.callWith_builtin rfl (Calls.evalArgs_plain (Calls.spliced_cons (Calls.Constant_str (Calls.spliced_cons (Calls.Constant_str (Calls.spliced_nil ?_))))))⟩
  exact PySem.SC.replace (by show k' ≠ 0; omega) (by show k' + 1 ≠ 0; omega) (by show k' ≠ k' + 1; omega) (by decide +kernel) (by
    have e : ("~n" : Str).length = 2 := by decide +kernel
    rw [e]; omega) fun t'' k'' => fin (v := V.str (foldS x)) (r := Value.str (foldS x) t'') (I.tok k'') ⟨t'', rfl⟩ q
/-! an f-string gives out a token -/
def PEt (X : Cx) (e : Expr) (t : TE) : Prop :=
  ∀ (pins : List (Addr × Obj)) (s : Shared) (σ : St) (H : Hp) (Q : VK), Inv X pins σ H s → t σ H Q → wpAny (model X.prog X.w) X.A (eval e X.env) (fun u s' => 1 ≤ s'.toks ∧ EP X pins σ Q u s') X.xe s
section
variable {X : Cx} {a b : Expr} {es : List Expr} {pos p : Pos} {f g : FE} {fs : List FE} {x : Str}
theorem pet_joined {v1 v2 : Expr} {rest : List Expr} {ts : List TE} {pos : Pos} (h : PJ X (v1 :: v2 :: rest) ts) : PEt X (.JoinedStr (v1 :: v2 :: rest) pos) (fun σ H Q => tJs ts Str.empty σ H fun out H1 => Q (.str out) H1) := by
  intro pins s σ H Q I q
  exact wpAny_JoinedStr (pj_run h Str.empty s H (fun out H1 => Q (.str out) H1) _ (Nat.zero_le _) I q fun out s1 H1 hz I1 q1 => ⟨hz, Nat.le_add_left _ _, .str out, H1, I1.tok _, ⟨_, rfl⟩, q1⟩)
theorem xjt {v1 v2 : Expr} {rest : List Expr} (h : PJ X (v1 :: v2 :: rest) (fs.map (tD X.F))) : PEt X (.JoinedStr (v1 :: v2 :: rest) pos) (tD X.F (eJ fs)) := by
  intro pins s σ H Q I q
  refine pet_joined h pins s σ H Q I ?_
  obtain ⟨fx, ss, d, s3, fr, e, k⟩ := q
  obtain ⟨x, s1, e1, e⟩ := bind_ok e
  cases e
  exact js_read fr e1 fun H' k1 f1 => k _ _ k1 f1 (.str _)
/-- f'..' + folded(e) -/
def eFold (f : FE) : FE := fun ss => (f ss).bind fun d s1 => match d with
  | .str x => if x.length ≤ 100000 then .ok (.str (foldS x)) s1 else .no
  | _ => .no
def OkFold (P : Program) (K : Fg) (mg : Str → Option Value) (base : Heap) (k : Nat) (x : Str) : Prop := ∃ f, FoldRun P K.w K.k mg base k f ∧ mg x = some (.ref f) ∧ PySem.W.keepIn K (.ref f) = true
theorem xaddF {k : Nat} {pc pf : Pos} (G : OkFold X.prog X.F X.mg X.base k x) (hr : Room k X.A) (ha : PEt X a (tD X.F f)) (hb : PE X b (tD X.F g)) (hg : Gl X x := by rfl) (hdb : (x == ("__debug__" : Str)) = false := by decide)
    (he : starEach [b] X.env = (false, eval b X.env) :: starEach [] X.env := by rfl) (hpl : (backTo pc (starEach [] X.env)).any (·.1) = false := by rfl) :
    PE X (.BinOp a .Add (.Call (.Name x pf) [b] [] pc) pos) (tD X.F (eOp dAdd f (eFold g))) := by
  obtain ⟨fa, R, hm, hk⟩ := G
  refine ⟨fun pins s σ H Q I q => ?_⟩
  have q2 : tOp (rD X.F dAdd) (tD X.F f) (tD X.F (eFold g)) σ H Q := cmp_read q
  refine wpAny_BinOp (thn (ha pins s σ H _ I q2) fun v s1 ⟨ht, y, H1, I1, r1, fx, ss, d, s3, fr, e, kk⟩ => ?_)
  obtain ⟨d0, s4, e1, e⟩ := bind_ok e
  split at e
  rotate_left
  · cases e
  rename_i z
  split at e
  rotate_left
  · cases e
  rename_i hz
  cases e
  refine wpAny_Call_Name_kw (ld_glob I1 hg hm ?_ hdb)
  refine PySem.W.callWith_K (h₀ := X.base) I1.ok.mod.kin hk ?_ he hpl
  have A : PA X [b] (tCons (tD X.F g) tNil) := pa_cons hb pa_nil he
  refine wpAny_mono (wpAny_toks_of ht (A.run pc pins s1 σ H1 (fun vs H2 => ∃ v2', vs = [v2'] ∧ Kp H1 H2 ∧ FR X.F fx s3 σ H2 ∧ Rep X.F H2 v2' (.str z)) I1 ⟨fx, ss, _, _, fr, e1, fun v2 H2 k2 f2 r2 => ⟨v2, rfl, k2, f2, r2⟩⟩)) (fun us s2 ⟨ht2, vs, H2, I2, r2, v2, ev, k2, f2, rp⟩ => ?_) fun _ _ x => x.2
  subst ev
  obtain rfl := rp.strv
  cases r2 with
  | cons r3 r4 =>
    cases r4
    obtain ⟨tz, rfl⟩ := r3
    refine ⟨I2.kIn, wpAny_call (codeAny_mono (R X.A X.stack s2 H2 z tz (fun y1 H2 => rD X.F dAdd y y1 H2 Q) (fun _ _ _ => False) hr I2.env0 ht2 hz (kk _ H2 k2 f2 (.str _))) fun r s' hq => ?_)⟩
    cases r with
    | error e => exact hq.elim
    | ok fl =>
      cases fl with
      | ret u =>
        obtain ⟨w, H3, I3, r3, q3⟩ := I2.after hq
        exact opAdd pins s' σ H3 _ _ _ _ Q I3 r1 r3 q3
      | next => exact False.elim hq
      | brk => exact False.elim hq
      | cont => exact False.elim hq
end
theorem ok_fold {P : Program} {K : Fg} {mg : Str → Option Value} {base : Heap} {k : Nat} {x a0 : Str} {st : Stmt} {N : List Str} {p1 a1 c1 q1 q2 a2 c2 q3 q4 rpos : Pos} {j1 j2 j3 j4 : Nat} (a : At K mg x st [a0]) (S : FnScope N [a0] (defScope st))
    (hbd : defBody st = [.Return (some (.Call (.Attribute (.Call (.Attribute (.Name a0 p1) "replace" a1) [.Constant (.str "~") j1 q1, .Constant (.str "~~") j2 q2] [] c1) "replace" a2) [.Constant (.str "\n") j3 q3, .Constant (.str "~n") j4 q4] [] c2)) rpos])
    (h0 : (defScope st).names.lookup a0 = some .local) (d0 : (a0 == ("__debug__" : Str)) = false) (hl1 : (a1.endLine == c1.line) = true) (hl2 : (a2.endLine == c2.line) = true) : OkFold P K mg base (k + 1) x := by
  obtain ⟨f, fd, Fn, m, bi⟩ := a
  obtain ⟨oc, od, kV, doc, pm, an, cdv, ct, osl, rfl, lk, hcd⟩ := Fn.ex
  exact ⟨f, fold_run hbd lk hcd S bi h0 d0 hl1 hl2, m, Fn.kp⟩
end Dt

/-! Dt17: extend, get, two own dicts at once. -/
namespace Dt
open PySem PySem.Spec L2
open PyProof.Rows hiding St
section
variable {X : Cx} {a b c : Expr} {f g h : FE} {fn : FN} {pos : Pos}
/-- xs.extend(e) with a new list -/
def sExt (i : Nat) (fn : FN) : FS := fun ss => match objAt ss i with
  | some (.lst _) => match fn ss with
    | .ok (.lst es) s1 => match s1[i]? with
      | some s => match s.obj with
        | some (.lst ds) => if ds.length + es.length ≤ sizeLine then .nx (s1.set i (s.put (.lst (ds ++ es)))) else .no
        | _ => .no
      | none => .no
    | _ => .no
  | _ => .no
theorem sext (i : Nat) {st : Stmt} (h : PS X st (tDrop (tBM X.F "list" rExtend (tVar i) (tCons (tN X.F fn) tNil)))) : PS X st (tS X.F (sExt i fn)) := by
  refine h.imp fun E σ H q => ?_
  obtain ⟨fx, ss, fr, k⟩ := tS_iff.mp q
  unfold sExt at k
  split at k
  rotate_left
  · exact k.elim
  rename_i ds0 ho
  obtain ⟨s0, e0, eo⟩ := objAt_some ho
  obtain ⟨q, h1, ⟨xs, h2, _⟩, _⟩ := (fr.slot i s0 e0).obj eo
  refine ⟨_, h1, .inl ⟨rfl, xs, .of h2⟩, ?_⟩
  split at k
  rotate_left
  · exact k.elim
  rename_i es s1 e1
  split at k
  rotate_left
  · exact k.elim
  rename_i s es_
  split at k
  rotate_left
  · exact k.elim
  rename_i ds eo2
  split at k
  rotate_left
  · exact k.elim
  rename_i hl
  refine ⟨fx, ss, _, s1, fr, e1, fun p H1 k1 f1 ow nw => ?_⟩
  obtain ⟨zs, w1, w2⟩ := ow
  obtain ⟨q2, z1, ⟨ys, z2, z3⟩, _⟩ := (f1.slot i s es_).obj eo2
  rw [h1] at z1
  cases z1
  obtain ⟨f2, k2⟩ := f1.mut (o' := .lst (ds ++ es)) (u := .lst (ys ++ zs)) es_ eo2 h1 fun kk => ⟨_, upd_same, (z3.append w2).kp kk⟩
  exact ⟨q, p, ys, zs, rfl, rfl, z2, w1, by rw [z3.len, w2.len]; exact hl, k _ _ (k1.trans k2) f2⟩
/-- d.get(k, e) -/
def gGet (d k e : D) : Option D := match kvsOf d with
  | some (n, kvs) => if kGood n k = true then some ((look kvs k).getD e) else none
  | none => none
def eGet (f g h : FE) : FE := fun ss => (f ss).bind fun d s1 => (g s1).bind fun k s2 => (h s2).bind fun e s3 => .of (gGet d k e) s3
theorem da_obj {pins : List (Addr × Obj)} {σ : St} {H : Hp} {s : Shared} {p : Addr} {n : Bool} {kvs : List (D × D)} (I : Inv X pins σ H s) (g : DAt X.F H p n kvs) : ∀ q, Value.ref p = .ref q → ∃ ob, s.heap.get? q = some ob ∧ ob.dict = none := by
  intro q e
  cases e
  cases g with
  | k hr rr => exact (isD_at I (.inl ⟨_, hr⟩)).2.1 p rfl
  | n hr h0 h1 h2 =>
    obtain ⟨_, _, xs, _, _, dd⟩ := nd_at I hr h0 h1
    obtain ⟨ob, _, _, w1, w2, _⟩ := dd
    exact ⟨ob, w1, w2.2.1⟩
theorem xget {apos cpos : Pos} (hu : X.A.units + 64 < cLine) (ho : PE X a (tD X.F f)) (he : PE X b (tD X.F g)) (hf : PE X c (tD X.F h)) (hbase : attributeBase a "get" X.env (eval a X.env) = eval a X.env := by rfl)
    (hfew : ((backTo cpos (starEach [b, c] X.env)).all (fun x => !x.1) && (backToKw cpos (keywordEach [] X.env)).all (fun x => x.1.isSome) && decide (([b, c] : List Expr).length + ([] : List Keyword).length + (if ([] : List Keyword).isEmpty then 0 else 1) < 30)) = true := by rfl)
    (hline : (apos.endLine == cpos.line) = true := by rfl) (htr : backTo cpos (starEach [b, c] X.env) = [(false, eval b X.env), (false, eval c X.env)] := by rfl) :
    PE X (.Call (.Attribute a "get" apos) [b, c] [] cpos) (tD X.F (eGet f g h)) := by
  refine ⟨fun pins s σ H Q I q => ?_⟩
  obtain ⟨fx, ss, z, s9, fr, e, kk⟩ := q
  obtain ⟨d, s1, e1, e⟩ := bind_ok e
  obtain ⟨k, s2, e2, e⟩ := bind_ok e
  obtain ⟨y, s3, e3, e⟩ := bind_ok e
  obtain ⟨eg, rfl⟩ := of_ok e
  unfold gGet at eg
  split at eg
  rotate_left
  · cases eg
  rename_i n kvs hk
  split at eg
  rotate_left
  · cases eg
  rename_i hg
  cases eg
  refine wpAny_Call_method hbase hfew hline PySem.F.plainAttrs_dict PySem.F.slot_dict_get PySem.F.type_dict_get (thn (ho.run pins s σ H (fun v H1 => Kp H H1 ∧ FR X.F fx s1 σ H1 ∧ Rep X.F H1 v d) I ⟨fx, ss, d, s1, fr, e1, fun v H1 k1 f1 r1 => ⟨k1, f1, r1⟩⟩) fun u t1 ⟨v, H1, I1, rv, k1, f1, r1⟩ => ?_)
  obtain ⟨p, ev, da⟩ := r1.dat hk
  subst ev
  obtain rfl : u = Value.ref p := rv
  refine ⟨da_type I1 da, da_obj I1 da, ?_⟩
  rw [htr]
  refine Calls.callWith_builtin rfl (Calls.evalArgs_plain (Calls.spliced_cons (thn (he.run pins t1 σ H1 (fun v H2 => Kp H1 H2 ∧ FR X.F fx s2 σ H2 ∧ Rep X.F H2 v k) I1 ⟨fx, s1, k, s2, f1, e2, fun v H2 k2 f2 r2 => ⟨k2, f2, r2⟩⟩) fun iv t2 ⟨w, H2, I2, rw_, k2, f2, r2⟩ =>
    Calls.spliced_cons (thn (hf.run pins t2 σ H2 (fun v H3 => Kp H2 H3 ∧ FR X.F fx s9 σ H3 ∧ Rep X.F H3 v y) I2 ⟨fx, s2, y, s9, f2, e3, fun v H3 k3 f3 r3 => ⟨k3, f3, r3⟩⟩) fun jv t3 ⟨x, H3, I3, rx, k3, f3, r3⟩ => Calls.spliced_nil ?_))))
  obtain ⟨p', ep, da3⟩ := (r1.kp (k2.trans k3)).dat hk
  cases ep
  exact da_get2 hu I3 da3 (r2.kp k3) hg rw_ rx r3 fun v w' t4 I4 rw' rr => ⟨v, H3, I4, rw', kk _ _ (k1.trans (k2.trans k3)) f3 rr⟩
/-- the same of an object of one's own -/
def eOget (i : Nat) (g h : FE) : FE := fun ss => match (objAt ss i).bind kvO with
  | some _ => (g ss).bind fun k s1 => (h s1).bind fun e s2 => match (objAt s2 i).bind kvO with
    | some (n, kvs) => if kGood n k = true then .ok ((look kvs k).getD e) s2 else .no
    | none => .no
  | none => .no
theorem xoget (i : Nat) {apos cpos : Pos} (hu : X.A.units + 64 < cLine) (ho : PE X a (tVar i)) (he : PE X b (tD X.F g)) (hf : PE X c (tD X.F h)) (hbase : attributeBase a "get" X.env (eval a X.env) = eval a X.env := by rfl)
    (hfew : ((backTo cpos (starEach [b, c] X.env)).all (fun x => !x.1) && (backToKw cpos (keywordEach [] X.env)).all (fun x => x.1.isSome) && decide (([b, c] : List Expr).length + ([] : List Keyword).length + (if ([] : List Keyword).isEmpty then 0 else 1) < 30)) = true := by rfl)
    (hline : (apos.endLine == cpos.line) = true := by rfl) (htr : backTo cpos (starEach [b, c] X.env) = [(false, eval b X.env), (false, eval c X.env)] := by rfl) :
    PE X (.Call (.Attribute a "get" apos) [b, c] [] cpos) (tD X.F (eOget i g h)) := by
  refine ⟨fun pins s σ H Q I q => ?_⟩
  obtain ⟨fx, ss, z, s9, fr, e, kk⟩ := q
  unfold eOget at e
  split at e
  rotate_left
  · cases e
  rename_i o hob
  obtain ⟨k, s2, e2, e⟩ := bind_ok e
  obtain ⟨y, s3, e3, e⟩ := bind_ok e
  split at e
  rotate_left
  · cases e
  rename_i n kvs hk
  split at e
  rotate_left
  · cases e
  rename_i hg
  cases e
  obtain ⟨o1, hob1, hob2⟩ := Option.bind_eq_some_iff.mp hob
  obtain ⟨n0, kvs0⟩ := o
  have := kvO_some hob2
  subst this
  obtain ⟨s0, e0, eo⟩ := objAt_some hob1
  obtain ⟨p, h1, h2, _⟩ := (fr.slot i s0 e0).obj eo
  refine wpAny_Call_method hbase hfew hline PySem.F.plainAttrs_dict PySem.F.slot_dict_get PySem.F.type_dict_get (thn (ho.run pins s σ H (fun v H1 => v = .ref p ∧ H1 = H) I ⟨_, h1, rfl, rfl⟩) fun u t1 ⟨v, H1, I1, rv, ev, eH⟩ => ?_)
  subst ev eH
  obtain rfl : u = Value.ref p := rv
  refine ⟨da_type I1 h2.dat, da_obj I1 h2.dat, ?_⟩
  rw [htr]
  refine Calls.callWith_builtin rfl (Calls.evalArgs_plain (Calls.spliced_cons (thn (he.run pins t1 σ H1 (fun v H2 => Kp H1 H2 ∧ FR X.F fx s2 σ H2 ∧ Rep X.F H2 v k) I1 ⟨fx, ss, k, s2, fr, e2, fun v H2 k2 f2 r2 => ⟨k2, f2, r2⟩⟩) fun iv t2 ⟨w, H2, I2, rw_, k2, f2, r2⟩ =>
    Calls.spliced_cons (thn (hf.run pins t2 σ H2 (fun v H3 => Kp H2 H3 ∧ FR X.F fx s9 σ H3 ∧ Rep X.F H3 v y) I2 ⟨fx, s2, y, s9, f2, e3, fun v H3 k3 f3 r3 => ⟨k3, f3, r3⟩⟩) fun jv t3 ⟨x, H3, I3, rx, k3, f3, r3⟩ => Calls.spliced_nil ?_))))
  obtain ⟨o3, hob3, hob4⟩ := Option.bind_eq_some_iff.mp hk
  have := kvO_some hob4
  subst this
  obtain ⟨s4, e4, eo4⟩ := objAt_some hob3
  obtain ⟨p', g1, g2, _⟩ := (f3.slot i s4 e4).obj eo4
  rw [h1] at g1
  cases g1
  exact da_get2 hu I3 g2.dat (r2.kp k3) hg rw_ rx r3 fun v w' t4 I4 rw' rr => ⟨v, H3, I4, rw', kk _ _ (k2.trans k3) f3 rr⟩
end
end Dt

/-! Dt18: dict comprehensions, keys of both kinds. -/
namespace Dt
open PySem PySem.Spec L2
open PyProof.Rows hiding St
section
variable {X : Cx} {pins : List (Addr × Obj)} {σ : St} {H : Hp} {s : Shared} {a : Addr} {n : Bool} {kvs : List (D × D)} {y v : V} {u r : Value} {k e : D} {E : Value → Shared → Prop}
/-- one pair put into a dict that a comprehension makes -/
theorem da_put {Q : Unit → Shared → Prop} (hu : X.A.units + 64 < cLine) (I : Inv X pins σ H s) (g : OwnAt X.F H a (mkO n kvs)) (hk : Rep X.F H y k) (kg : kGood n k = true) (ry : RelV y u) (rv : RelV v r) (hv : Rep X.F H v e) (hl : kvs.length < sizeLine)
    (h : ∀ ho s', Inv X pins σ (upd H a ho) s' → (Kp H (upd H a ho) → OwnAt X.F (upd H a ho) a (mkO n (dput kvs k e))) → Q () s') : wpAny (model X.prog X.w) X.A (dictSet a u r) Q E s := by
  cases n with
  | false =>
    obtain ⟨kv0, es, h1, h2, rfl⟩ := g
    obtain ⟨key, rfl, rfl⟩ := good_k kg hk
    have hn : es.length = kv0.length := by rw [← h2.len, List.length_map]
    rw [List.length_zip, List.length_map] at hl
    obtain ⟨ds', p1, p2⟩ := put_k (k := key) hv h2
    refine d_dictSet I h1 (by omega) ry rv fun s' I' => h _ s' I' fun kp => ?_
    rw [p2]
    exact ⟨_, ds', upd_same, p1.kp kp, rfl⟩
  | true =>
    obtain ⟨kks, kv0, es, h1, h0, h2, h3, rfl⟩ := g
    obtain ⟨kk, b, rfl, rfl, hc⟩ := good_n kg hk
    cases (show u = Value.ref b from ry)
    obtain ⟨z, hd, xs, e1, p, dd⟩ := nd_at I (.inl h1) h0 h2
    have l1 : kv0.length = kks.length := by have q := h2.len; rw [List.length_map, List.length_map] at q; exact q
    have l2 : es.length = kks.length := by rw [← h3.len, List.length_map, l1]
    have l3 : kv0.length = xs.length := paired_len p
    rw [List.length_zip, List.length_map] at hl
    refine wpAny_dictSet_heap (hsz := by omega) (show X.A.units + 8 < cLine by omega) (rep_key I hk hc) dd fun h' dd' hs => ?_
    obtain ⟨oo, hoo⟩ : ∃ q, h'.get? a = some q := let ⟨q, _, _, hq, _⟩ := dd'; ⟨q, hq⟩
    unfold storedH at dd'
    by_cases c : kk ∈ kks
    · have ca : (atKey xs kk).isSome = true := by
        rw [← e1] at c
        obtain ⟨x, hx, hxe⟩ := List.mem_map.mp c
        unfold atKey
        rw [Option.isSome_map, List.find?_isSome]
        exact ⟨x, hx, decide_eq_true hxe⟩
      rw [if_pos ca] at dd'
      obtain ⟨ds', p1, p2⟩ := put_n (k := kk) hv l1 h3
      have lz : (nrepl kk v kks kv0).length = kv0.length := by have q := congrArg List.length (nrepl_fst (k := kk) (v := v) l1); rw [List.length_map, List.length_map] at q; exact q
      refine h (NdO X.w a kks (nrepl kk v kks kv0)) _ (d_write I (by rw [h1]; exact True.intro) hs ⟨oo, hoo⟩ (nd_ok (by omega) hd (by rw [keys_map_putAt, e1]) (nrepl_pair rv e1 p) dd')) fun kp => ?_
      refine ⟨kks, nrepl kk v kks kv0, ds', upd_same, h0, ?_, p1.kp kp, ?_⟩
      · rw [nrepl_fst l1]; exact h2.kp kp
      · unfold dput
        rw [nany l2, if_pos (decide_eq_true c)]
        exact p2
    · have ca : ¬ (atKey xs kk).isSome = true := fun z => by
        unfold atKey at z
        rw [Option.isSome_map, List.find?_isSome] at z
        obtain ⟨x, hx, hxe⟩ := z
        exact c (by rw [← e1]; exact List.mem_map.mpr ⟨x, hx, of_decide_eq_true hxe⟩)
      rw [if_neg ca] at dd'
      refine h (NdO X.w a (kks ++ [kk]) (kv0 ++ [(.ref b, v)])) _ (d_write I (by rw [h1]; exact True.intro) hs ⟨oo, hoo⟩ (nd_ok (by rw [List.length_append]; simp; omega) hd (by rw [List.map_append, e1]; rfl) (paired_app p (.cons ⟨rfl, rv⟩ .nil)) dd')) fun kp => ?_
      refine ⟨kks ++ [kk], kv0 ++ [(.ref b, v)], es ++ [e], upd_same, by rw [List.all_append, h0]; simp [hc], ?_, ?_, ?_⟩
      · rw [List.map_append, List.map_append]
        exact (h2.append (.cons hk .nil)).kp kp
      · rw [List.map_append]
        exact (h3.append (.cons hv .nil)).kp kp
      · unfold dput
        rw [nany l2, if_neg (by rw [decide_eq_false c]; decide), List.map_append, List.zip_append (by rw [List.length_map, l2])]
        rfl
end
/-- a dict with nothing in it -/
def e0 (w : World) (n : Bool) (p : Addr) : HO := if n = true then NdO w p [] [] else .dK []
theorem e0_own {K : Fg} {H : Hp} {p : Addr} (n : Bool) : OwnAt K (upd H p (e0 K.w n p)) p (mkO n []) := by
  cases n with
  | false => exact ⟨[], [], upd_same, .nil, rfl⟩
  | true => exact ⟨[], [], [], upd_same, rfl, .nil, .nil, rfl⟩
theorem e0_ok {P : Program} {w : World} {n : Bool} {h : Heap} (hb : sysModules < h.objs.size) {H' : Hp} : ObjOk P w H' (h.push { cls := .type "dict", data := .dict #[] }) h.objs.size (e0 w n h.objs.size) := by
  cases n with
  | false => exact dk_empty h hb
  | true => exact nd_empty P w h hb
section
variable {X : Cx}
/-- {k: v for target in iter if ..}, keys of both kinds; p the new dict -/
def tDg (X : Cx) (n : Bool) (wi : TI) (g : TG) (tt : TT) (tk tv : TE) (vs : List Nat) : TE := fun σ H Q => wi σ H fun J Ha => ∀ p, Ha p = none → ∃ W : Nat → Nat → Hp → Prop, (∃ m, W 0 m (upd Ha p (e0 X.w n p))) ∧ ∀ i m Hb, W i m Hb →
  (J.stop i Hb ∧ Q (.ref p) Hb) ∨ (J.go i Hb ∧ ∃ Nx : Hp → Prop, (∀ Hc, Nx Hc → ∃ m', m' < m ∧ W (i + 1) m' Hc) ∧ ∀ x Hc, J.yld i Hb x Hc → g x (L2.wipe σ vs) Hc fun σ2 Hd => L2.wipe σ2 vs = L2.wipe σ vs ∧ tt σ2 Hd fun b He =>
    if b = true then tk σ2 He fun y Hf => tv σ2 Hf fun z Hg => ∃ kvs k e, OwnAt X.F Hg p (mkO n kvs) ∧ Rep X.F Hg y k ∧ kGood n k = true ∧ Rep X.F Hg z e ∧ kvs.length < sizeLine ∧ ∀ ho, (Kp Hg (upd Hg p ho) → OwnAt X.F (upd Hg p ho) p (mkO n (dput kvs k e))) → Nx (upd Hg p ho) else Nx He)
theorem dg_core {n : Bool} {pins : List (Addr × Obj)} {s : Shared} {σ : St} {H : Hp} {Q : VK} {kx vx tg iter : Expr} {ifs : List Expr} {scope : Scope} {own : List (Str × Nat)} {pos pos' : Pos} {wi : TI} {g : TG} {tt : TT} {tk tv : TE} {use : Option (Value → Sem Unit)} {Qf : Value → Shared → Prop}
    (hu : X.A.units + 64 < cLine) (calm : X.calm = true) (nd : X.N.Nodup) (I : Inv X pins σ H s) (pi : PI X tg iter wi) (blk : BlkOk X.N X.env.scope scope own)
    (qg : ∀ (s : Shared) (H : Hp) (C : Addr) (cl : List (Str × Addr)) (fp : List Addr), PG (X.blk s H scope (compEnvC scope cl C X.env) fp) tg g) (qt : ∀ (s : Shared) (H : Hp) (C : Addr) (cl : List (Str × Addr)) (fp : List Addr), PTs (X.blk s H scope (compEnvC scope cl C X.env) fp) ifs tt)
    (qk : ∀ (s : Shared) (H : Hp) (C : Addr) (cl : List (Str × Addr)) (fp : List Addr), PE (X.blk s H scope (compEnvC scope cl C X.env) fp) kx tk)
    (qv : ∀ (s : Shared) (H : Hp) (C : Addr) (cl : List (Str × Addr)) (fp : List Addr), PE (X.blk s H scope (compEnvC scope cl C X.env) fp) vx tv) (fold : ∀ x, foldedSetIterable iter X.env x = pure x)
    (h : tDg X n wi g tt tk tv (own.map (·.2)) σ H Q)
    (after : ∀ p C s' m H', Inv X pins σ H' s' → Q (.ref p) H' → s'.heap.Ns C m → FpOk X pins H' C → compPost (model X.prog X.w) X.A X.xe use Qf (.ref p) C (.ok .next) s') :
    wpAny (model X.prog X.w) X.A (comprehension (.DictComp kx vx [⟨tg, iter, ifs, 0⟩] scope pos) scope X.env pos' newDict false (eval iter X.env) use) Qf X.xe s := by
  have free : ∀ y ∈ scope.names, y.2 = .free → ∃ c, X.env.cells.lookup y.1 = some c := fun y hy ey => by
    rcases blk.free y hy ey with z | z
    · exact I.ok.has _ (.inl z)
    · exact I.ok.has _ (.inr z)
  refine wpAny_comprehension_free (use := use) rfl fold (closure_ok free) blk.kind (fun y hy ey => by rw [blk.uniq y hy, ey]) (thn (pi.run pins s σ H _ I h) fun v1 t1 w1 => thn w1 fun v2 t2 w2 => ?_)
  obtain ⟨ia, fp, tn, J, Ha, rfl, Ia, T, sa, fa, q⟩ := w2
  refine wpAny_newObj_type (newEnv_comp ?_)
  have pn : Ha t2.heap.objs.size = none := Ia.hok.fresh (Nat.le_refl _)
  obtain ⟨W, ⟨m0, w0⟩, turn⟩ := q _ pn
  generalize hp : t2.heap.objs.size = p at *
  obtain ⟨t3, et3⟩ : ∃ t3 : Shared, t3 = { t2 with heap := t2.heap.push { cls := .type "dict", data := .dict #[] } } := ⟨_, rfl⟩
  have Ib : Inv X pins σ (upd Ha p (e0 X.w n p)) t3 := by
    rw [et3]
    refine Ia.laid (t' := t2.toks) (fun b o z => Heap.get?_push_of_some _ z) (Nat.le_of_eq hp) ?_
    rw [← hp]
    exact e0_ok Ia.big
  have small : ∀ b ∈ fp, b < p := fun b hb => by
    obtain ⟨o, z, _⟩ := T.obj _ _ sa b hb
    rw [← hp]
    exact Heap.lt_size z
  have big3 : t3.heap.objs.size = p + 1 := by rw [et3, Heap.size_push, hp]
  have fb : ∀ b ∈ fp, FpOk X pins (upd Ha p (e0 X.w n p)) b ∧ b < t3.heap.objs.size := fun b hb =>
    ⟨⟨by rw [upd_ne (Nat.ne_of_lt (small b hb))]; exact (fa b hb).1, (fa b hb).2⟩, by rw [big3]; exact Nat.lt_succ_of_lt (small b hb)⟩
  have sb : tn 0 t3.heap := T.keep _ _ _ sa fun b _ o z => by rw [et3]; exact Heap.get?_push_of_some _ z
  have Ic := block_start Ib blk nd fb
  obtain ⟨ce, ece⟩ : ∃ ce, ce = compEnvC scope (cellsFrom (t3.heap.objs.size + 1) scope.names (cloFrom X.env.cells scope.names [])) t3.heap.objs.size X.env := ⟨_, rfl⟩
  have pg := qg t3 (upd Ha p (e0 X.w n p)) t3.heap.objs.size (cellsFrom (t3.heap.objs.size + 1) scope.names (cloFrom X.env.cells scope.names [])) fp
  have pt := qt t3 (upd Ha p (e0 X.w n p)) t3.heap.objs.size (cellsFrom (t3.heap.objs.size + 1) scope.names (cloFrom X.env.cells scope.names [])) fp
  have pk := qk t3 (upd Ha p (e0 X.w n p)) t3.heap.objs.size (cellsFrom (t3.heap.objs.size + 1) scope.names (cloFrom X.env.cells scope.names [])) fp
  have pv := qv t3 (upd Ha p (e0 X.w n p)) t3.heap.objs.size (cellsFrom (t3.heap.objs.size + 1) scope.names (cloFrom X.env.cells scope.names [])) fp
  rw [← et3]
  rw [← ece] at Ic pg pt pk pv
  have cL : ce.locals = t3.heap.objs.size := by rw [ece]; rfl
  have nfp : ∀ b ∈ fp, (upd Ha p (e0 X.w n p)) b = none := fun b hb => (fb b hb).1.1
  obtain ⟨Hx, eHx⟩ : ∃ Hx, Hx = upd Ha p (e0 X.w n p) := ⟨_, rfl⟩
  rw [← eHx] at Ib Ic pg pt pk pv w0 nfp fb
  show codeAny _ _ (.compStart (.DictComp kx vx [⟨tg, iter, ifs, 0⟩] scope pos) 0 (.ref ia) (.ref p) (compEnvC scope (cellsFrom (t3.heap.objs.size + 1) scope.names (cloFrom X.env.cells scope.names [])) t3.heap.objs.size X.env)) _ _
  rw [← ece]
  obtain ⟨t4, et4⟩ : ∃ t4 : Shared, t4 = { t3 with heap := pushCells (t3.heap.push { cls := .type "dict", data := .dict #[] }) scope.names } := ⟨_, rfl⟩
  rw [← et4] at Ic ⊢
  have sc : tn 0 t4.heap := T.keep _ _ _ sb fun b _ o z => by rw [et4]; exact pushCells_keeps _ _ _ _ (Heap.get?_push_of_some _ z)
  have stay : ∀ {σ' : St} {H' : Hp} {s' : Shared}, Inv (X.blk t3 Hx scope ce fp) [] σ' H' s' → (∀ b ∈ fp, H' b = none) → ∀ b ∈ fp, FpOk (X.blk t3 Hx scope ce fp) [] H' b := fun {σ' H' s'} J' hn b hb =>
    ⟨hn b hb, (J'.ok.exf b hb).1, J'.ok.exfs b hb, .inl hb, fun x c z => (J'.ok.exf b hb).2 x c z, fun q hq => absurd (show q ∈ ([] : List (Addr × Obj)) ++ [] from hq) (by simp)⟩
  have loop : codeAny (model X.prog X.w) X.A (.compLoop (.DictComp kx vx [⟨tg, iter, ifs, 0⟩] scope pos) 0 (.ref ia) (.ref p) ce) (compPost (model X.prog X.w) X.A X.xe use Qf (.ref p) t3.heap.objs.size) t4 := by
    refine compLoop_anyD (fun m s' => ∃ i H', Inv (X.blk t3 Hx scope ce fp) [] (L2.wipe σ (own.map (·.2))) H' s' ∧ tn i s'.heap ∧ (∀ b ∈ fp, H' b = none) ∧ W i m H') ?_ m0 ⟨0, Hx, Ic, sc, nfp, w0⟩
    rintro m t5 ⟨i, H5, I5, s5, n5, w5⟩
    rcases turn i m H5 w5 with ⟨stop, qq⟩ | ⟨go, Nx, hNx, step⟩
    · refine thnF (T.done (X.blk t3 Hx scope ce fp) rfl rfl rfl calm i [] t5 _ H5 (fun _ _ => False) I5 (stay I5 n5) s5 stop) fun r t6 ⟨er, I6⟩ => ?_
      subst er
      have I7 : Inv X pins σ H5 t6 := Ib.call' (ch := fp) I6.os I6.base I6.hok I6.bare fun b hb => ⟨(fb b hb).1.2.2.2.1, (fb b hb).1.2.1, (fb b hb).1.2.2.2.2.1, (fb b hb).1.2.2.2.2.2⟩
      have nC : H5 t3.heap.objs.size = none := by
        rw [← cL]
        exact I6.free
      obtain ⟨mm, hn, _⟩ := I6.loc
      have hn : t6.heap.Ns ce.locals mm := hn
      rw [cL] at hn
      exact after p t3.heap.objs.size t6 mm H5 I7 qq hn (Ib.fpOk (Nat.le_refl _) nC)
    · refine thnF (T.item (X.blk t3 Hx scope ce fp) rfl rfl rfl calm i [] t5 _ H5 (fun _ _ => False) I5 (stay I5 n5) s5 go) fun r t6 ⟨u, er, h6⟩ => ?_
      subst er
      refine thnF h6 fun _ t7 ⟨x, H7, I7, r7, y7, s7, n7⟩ => ?_
      refine thnF (pg.run _ t7 _ H7 x u _ (I7.pinned (stay I7 n7) (T.obj _ _ s7)) r7 (step x H7 y7)) fun _ t8 ⟨σ8, H8, I8, hw8, q8⟩ => ?_
      refine thnF (pt.run _ t8 σ8 H8 _ I8 q8) fun b t9 ⟨H9, I9, q9⟩ => ?_
      have last : ∀ {s' : Shared} {H' : Hp}, Inv (X.blk t3 Hx scope ce fp) ([] ++ pinsAt fp t7.heap) σ8 H' s' → Nx H' → ∃ m1, m1 < m ∧ ∃ i H', Inv (X.blk t3 Hx scope ce fp) [] (L2.wipe σ (own.map (·.2))) H' s' ∧ tn i s'.heap ∧ (∀ b ∈ fp, H' b = none) ∧ W i m1 H' := fun {s' H'} J' nx => by
        obtain ⟨m1, hm, w'⟩ := hNx H' nx
        have pin' : ∀ b ∈ fp, ∀ o, t7.heap.get? b = some o → s'.heap.get? b = some o ∧ H' b = none := fun b hb o z =>
          let k := J'.pin (b, o) (List.mem_append_right _ (List.mem_append_right _ (mem_pinsAt hb z)))
          ⟨k.1, k.2.1⟩
        refine ⟨m1, hm, i + 1, H', (J'.unpinned (pins := [])).weak (by rw [← hw8, wipe_length]) (fun j v z => by rw [← hw8] at z; exact (wipe_some z).1), T.keep _ _ _ s7 fun b hb o z => (pin' b hb o z).1, fun b hb => ?_, w'⟩
        obtain ⟨o, z, _⟩ := T.obj _ _ s7 b hb
        exact (pin' b hb o z).2
      cases b with
      | false =>
        simp only [Bool.false_eq_true, if_false] at q9 ⊢
        exact last I9 q9
      | true =>
        simp only [if_true] at q9 ⊢
        refine thnF (pk.run _ t9 σ8 H9 _ I9 q9) fun z t10 ⟨yk, H10, I10, r10, q10⟩ => ?_
        refine thnF (pv.run _ t10 σ8 H10 _ I10 q10) fun z2 t11 ⟨yv, H11, I11, r11, kvs, k, e, ow, rk, kg, re, hl, nx⟩ => ?_
        exact da_put (X := X.blk t3 Hx scope ce fp) hu I11 ow rk kg r10 r11 re hl fun ho t12 I12 z => last I12 (nx ho z)
  exact codeAny_compStart_dict loop (T.self X.A 0 _ _ _ sc loop)
theorem pe_dg {n : Bool} {kx vx tg iter : Expr} {ifs : List Expr} {scope : Scope} {own : List (Str × Nat)} {pos : Pos} {wi : TI} {g : TG} {tt : TT} {tk tv : TE} (hu : X.A.units + 64 < cLine) (calm : X.calm = true) (nd : X.N.Nodup) (pi : PI X tg iter wi) (blk : BlkOk X.N X.env.scope scope own)
    (qg : ∀ (s : Shared) (H : Hp) (C : Addr) (cl : List (Str × Addr)) (fp : List Addr), PG (X.blk s H scope (compEnvC scope cl C X.env) fp) tg g) (qt : ∀ (s : Shared) (H : Hp) (C : Addr) (cl : List (Str × Addr)) (fp : List Addr), PTs (X.blk s H scope (compEnvC scope cl C X.env) fp) ifs tt)
    (qk : ∀ (s : Shared) (H : Hp) (C : Addr) (cl : List (Str × Addr)) (fp : List Addr), PE (X.blk s H scope (compEnvC scope cl C X.env) fp) kx tk)
    (qv : ∀ (s : Shared) (H : Hp) (C : Addr) (cl : List (Str × Addr)) (fp : List Addr), PE (X.blk s H scope (compEnvC scope cl C X.env) fp) vx tv) (fold : ∀ x, foldedSetIterable iter X.env x = pure x) :
    PE X (.DictComp kx vx [⟨tg, iter, ifs, 0⟩] scope pos) (tDg X n wi g tt tk tv (own.map (·.2))) := by
  refine ⟨fun pins s σ H Q I h => ?_⟩
  rw [arm_eval_DictComp]
  refine dg_core hu calm nd I pi blk qg qt qk qv fold h fun p C s' m H' J q hn f => ⟨m, hn, fun h'' same => ?_⟩
  obtain ⟨z0, z1, z2, z3, z4, z5⟩ := f
  exact ⟨.ref p, H', J.turned (t' := s'.toks) (fun b o hb z => (same.2 b hb).trans z) z0 z1 z3 z4 z5, rfl, q⟩
theorem ps_setDg {n : Bool} {i : Nat} {y : Str} {py spos : Pos} {kx vx tg iter : Expr} {ifs : List Expr} {scope : Scope} {own : List (Str × Nat)} {pos : Pos} {wi : TI} {g : TG} {tt : TT} {tk tv : TE} (hu : X.A.units + 64 < cLine) (calm : X.calm = true) (nd : X.N.Nodup) (hy : X.N[i]? = some y) (hyl : X.env.scope.names.lookup y = some .local)
    (hsw : swapsWith (.DictComp kx vx [⟨tg, iter, ifs, 0⟩] scope pos) (some (.Name y py)) spos.line X.env = pure true) (pi : PI X tg iter wi) (blk : BlkOk X.N X.env.scope scope own)
    (qg : ∀ (s : Shared) (H : Hp) (C : Addr) (cl : List (Str × Addr)) (fp : List Addr), PG (X.blk s H scope (compEnvC scope cl C X.env) fp) tg g) (qt : ∀ (s : Shared) (H : Hp) (C : Addr) (cl : List (Str × Addr)) (fp : List Addr), PTs (X.blk s H scope (compEnvC scope cl C X.env) fp) ifs tt)
    (qk : ∀ (s : Shared) (H : Hp) (C : Addr) (cl : List (Str × Addr)) (fp : List Addr), PE (X.blk s H scope (compEnvC scope cl C X.env) fp) kx tk)
    (qv : ∀ (s : Shared) (H : Hp) (C : Addr) (cl : List (Str × Addr)) (fp : List Addr), PE (X.blk s H scope (compEnvC scope cl C X.env) fp) vx tv) (fold : ∀ x, foldedSetIterable iter X.env x = pure x) :
    PS X (.Assign [.Name y py] (.DictComp kx vx [⟨tg, iter, ifs, 0⟩] scope pos) spos) (tAsg (tDg X n wi g tt tk tv (own.map (·.2))) (gName i)) := by
  refine ⟨fun pins s σ H E I h => ?_⟩
  rw [exec_Assign_Name_used _ _ _ _ hsw]
  refine wpAny_bind (wpAny_standAt (wpAny_bind ?_))
  show wpAny _ X.A (do let _ ← comprehension (.DictComp kx vx [⟨tg, iter, ifs, 0⟩] scope pos) scope X.env (firstIterPos [⟨tg, iter, ifs, 0⟩] pos) newDict false (eval iter X.env) (some (assign (.Name y py) X.env))) _ _ s
  have h : tDg X n wi g tt tk tv (own.map (·.2)) σ H (fun x H1 => gName i x σ H1 E.nx) := h
  refine wpAny_bind (thn (dg_core (Qf := fun _ s' => SP X pins E .next s') hu calm nd I pi blk qg qt qk qv fold h fun p C s' m H' J q hn f => ?_) fun _ s' hq => wpAny_pure (wpAny_pure hq))
  show wpAny _ _ (assign (.Name y py) X.env (.ref p)) _ _ _
  refine wpAny_assign_Name (store_ok2 (v := V.ref p) J nd hy (.inl hyl) rfl (fun s2 J2 ⟨a, sb, ha⟩ => ?_) (.inr hyl))
  obtain ⟨z0, z1, z2, z3, z4, z5⟩ := f
  have ne : C ≠ a := by
    rcases ha with z | z
    · rw [z]; exact z1
    · exact fun k => z4 y a z k.symm
  exact ⟨m, hn.sameBut sb ne, fun h3 sb3 => ⟨_, H', J2.turned (t' := s2.toks) (fun b o hb k => (sb3.2 b hb).trans k) z0 z1 z3 z4 z5, q⟩⟩
end
/-! the reading -/
def turnK (vs : List Nat) (g : GF) (t : FB) (fk fv : FE) (d : D) (ss : SS) : Option (Option (D × D) × SS) :=
  match g d (lend ss) with
  | none => none
  | some s1 => match t s1 with
    | .no => none
    | .ok false s2 => some (none, unlend ss (wipeS s2 vs))
    | .ok true s2 => match fk s2 with
      | .no => none
      | .ok k s3 => match fv s3 with
        | .no => none
        | .ok x s4 => some (some (k, x), unlend ss (wipeS s4 vs))
def compK (n : Bool) (vs : List Nat) (g : GF) (t : FB) (fk fv : FE) : List D → SS → List (D × D) → Option (List (D × D) × SS)
  | [], ss, acc => some (acc, ss)
  | d :: r, ss, acc => match turnK vs g t fk fv d ss with
    | none => none
    | some (none, s1) => compK n vs g t fk fv r s1 acc
    | some (some (k, x), s1) => if kGood n k = true ∧ acc.length < sizeLine then compK n vs g t fk fv r s1 (dput acc k x) else none
def nDc (n : Bool) (vs : List Nat) (src : FL) (g : GF) (t : FB) (fk fv : FE) : FN := fun ss => (src ss).bind fun ds s1 =>
  match compK n vs g t fk fv ds (wipeS s1 vs) [] with
    | some (kvs, s2) => .ok (mkO n kvs) (backS vs s1 s2)
    | none => .no
theorem loopK_read {n : Bool} {vs : List Nat} {gg : GF} {t : FB} {fk fv : FE} {σ : St} {H1 : Hp} {K : Fg} {fx : Fx} {sI sE : SS} {ds : List D} {acc0 out : List (D × D)} {p : Addr} {J : It} {R : Hp → Prop} (w : Walk K J ds H1) (fw : FR K fx sI (L2.wipe σ vs) H1) (nw : NewAt fx sI (L2.wipe σ vs) p)
    (own : OwnAt K H1 p (mkO n acc0)) (hcomp : compK n vs gg t fk fv ds sI acc0 = some (out, sE))
    (hR : ∀ H2, Kp H1 H2 → FR K fx sE (L2.wipe σ vs) H2 → (∀ (j : Nat) (s : Sl) (o : O), sE[j]? = some s → s.obj = some o → ∃ t u, sI[j]? = some t ∧ t.obj = some u) → OwnAt K H2 p (mkO n out) → R H2) :
    ∃ W : Nat → Nat → Hp → Prop, (∃ m, W 0 m H1) ∧ ∀ i m H, W i m H → (J.stop i H ∧ R H) ∨ (J.go i H ∧ ∃ Nx : Hp → Prop, (∀ H', Nx H' → ∃ m', m' < m ∧ W (i + 1) m' H') ∧ ∀ x H', J.yld i H x H' → gD K gg vs x (L2.wipe σ vs) H' fun σ2 H2 => L2.wipe σ2 vs = L2.wipe σ vs ∧ tT K t σ2 H2 fun b H3 =>
      if b = true then tD K fk σ2 H3 fun y H4 => tD K fv σ2 H4 fun z H5 => ∃ kvs k e, OwnAt K H5 p (mkO n kvs) ∧ Rep K H5 y k ∧ kGood n k = true ∧ Rep K H5 z e ∧ kvs.length < sizeLine ∧ ∀ ho, (Kp H5 (upd H5 p ho) → OwnAt K (upd H5 p ho) p (mkO n (dput kvs k e))) → Nx (upd H5 p ho) else Nx H3) := by
  refine ⟨fun i m H2 => m = ds.length - i ∧ i ≤ ds.length ∧ Kp H1 H2 ∧ ∃ ssi acc, FR K fx ssi (L2.wipe σ vs) H2 ∧ (∀ (j : Nat) (s : Sl) (o : O), ssi[j]? = some s → s.obj = some o → ∃ t u, sI[j]? = some t ∧ t.obj = some u) ∧
      OwnAt K H2 p (mkO n acc) ∧ compK n vs gg t fk fv (ds.drop i) ssi acc = some (out, sE),
    ⟨ds.length, by omega, Nat.zero_le _, Kp.refl _, sI, acc0, fw, fun j s o a b => ⟨s, o, a, b⟩, own, hcomp⟩, fun i m H2 ⟨em, hle, k2, ssi, acc, f2, old, ow, hc2⟩ => ?_⟩
  have nr : ∀ (j : Nat) (s : Sl) (o : O), ssi[j]? = some s → s.obj = some o → (L2.wipe σ vs)[j]? ≠ some (some (.ref p)) := fun j s o a b => by
    obtain ⟨t', u, c, d⟩ := old j s o a b
    exact nw.2 j t' u c d
  have wi := w i H2 k2
  by_cases hlt : i < ds.length
  · have ed : ds.drop i = ds[i] :: ds.drop (i + 1) := List.drop_eq_getElem_cons hlt
    rw [ed] at hc2
    unfold compK at hc2
    obtain ⟨go, yl⟩ := wi.1 ds[i] (List.getElem?_eq_getElem hlt)
    refine .inr ⟨go, fun H5 => Kp H1 H5 ∧ ∃ ssi acc, FR K fx ssi (L2.wipe σ vs) H5 ∧ (∀ (j : Nat) (s : Sl) (o : O), ssi[j]? = some s → s.obj = some o → ∃ t u, sI[j]? = some t ∧ t.obj = some u) ∧
      OwnAt K H5 p (mkO n acc) ∧ compK n vs gg t fk fv (ds.drop (i + 1)) ssi acc = some (out, sE), fun H5 ⟨a, b⟩ => ⟨ds.length - (i + 1), by omega, rfl, hlt, a, b⟩, fun x H3 hy => ?_⟩
    obtain ⟨sm, rp⟩ := yl x H3 hy
    have f3 := f2.same sm
    have fl3 := f3.lend
    have ow3 : OwnAt K H3 p (mkO n acc) := OwnAt.same sm ow
    have keepP : ∀ (s : SS) (τ : St) (H4 : Hp), Kp H3 H4 → FR K (fxr ssi (L2.wipe σ vs) H3) s τ H4 → OwnAt K H4 p (mkO n acc) := fun s τ H4 k4 g => by
      obtain ⟨u, hu, _⟩ := OwnAt.loose ow3
      refine OwnAt.kp k4 ?_ ow3
      rw [hu]
      exact g.rest p u hu fun j z => by
        obtain ⟨s', o', a, b, c⟩ := fxr_some z
        exact nr j s' o' a b c
    have old2 : ∀ (s2 : SS) (j : Nat) (s : Sl) (o : O), (unlend ssi s2)[j]? = some s → s.obj = some o → ∃ t u, sI[j]? = some t ∧ t.obj = some u := fun s2 j s o a b => by
      obtain ⟨t', u, c, d⟩ := unlend_old a b
      exact old j t' u c d
    unfold turnK at hc2
    cases eg : gg ds[i] (lend ssi) with
    | none => rw [eg] at hc2; cases hc2
    | some s4 =>
      rw [eg] at hc2
      simp only at hc2
      refine ⟨_, lend ssi, ds[i], s4, fl3, rp, eg, fun σ2 H4 wq0 k4 f4 => ?_⟩
      have wq := wq0.trans wipe_wipe
      refine ⟨wq, ?_⟩
      cases et : t s4 with
      | no => rw [et] at hc2; cases hc2
      | ok b s5 =>
        rw [et] at hc2
        refine ⟨_, s4, b, s5, f4, et, fun H5 k5 f5 => ?_⟩
        have kk : Kp H2 H5 := (Kp.same sm).trans (k4.trans k5)
        cases b with
        | false =>
          simp only at hc2
          refine iteF ⟨k2.trans kk, _, acc, ?_, old2 _, keepP _ _ _ (k4.trans k5) f5, hc2⟩
          have g5 := f5.wipe vs
          rw [wq] at g5
          exact f3.unlend g5 (k4.trans k5)
        | true =>
          simp only at hc2
          cases ee : fk s5 with
          | no => rw [ee] at hc2; cases hc2
          | ok y s6 =>
            rw [ee] at hc2
            simp only at hc2
            cases ev : fv s6 with
            | no => rw [ev] at hc2; cases hc2
            | ok z s7 =>
              rw [ev] at hc2
              simp only at hc2
              split at hc2
              rotate_left
              · cases hc2
              rename_i hg
              refine iteT ⟨_, s5, y, s6, f5, ee, fun v H6 k6 f6 r6 => ⟨_, s6, z, s7, f6, ev, fun v2 H7 k7 f7 r7 => ?_⟩⟩
              have k37 : Kp H3 H7 := ((k4.trans k5).trans k6).trans k7
              have ow7 := keepP _ _ _ k37 f7
              have g7 := f7.wipe vs
              rw [wq] at g7
              have f8 := f3.unlend g7 k37
              have kall : Kp H2 H7 := (Kp.same sm).trans k37
              refine ⟨acc, y, z, ow7, r6.kp k7, hg.1, r7, hg.2, fun ho hown => ?_⟩
              obtain ⟨u, hu, lu, _⟩ := OwnAt.loose ow7
              have k78 : Kp H7 (upd H7 p ho) := Kp.upd hu lu
              refine ⟨(k2.trans kall).trans k78, _, dput acc y z, f8.lock ⟨nw.1, fun j s o a b => ?_⟩ hu lu, old2 _, hown k78, hc2⟩
              obtain ⟨t', u, c, d⟩ := unlend_old a b
              exact nr j t' u c d
  · have ed : ds.drop i = [] := List.drop_eq_nil_of_le (by omega)
    rw [ed] at hc2
    unfold compK at hc2
    cases hc2
    exact .inl ⟨wi.2 (by omega), hR H2 k2 f2 old ow⟩
section
variable {X : Cx}
theorem dc_read {n : Bool} {vs : List Nat} {fl : FL} {gg : GF} {t : FB} {fk fv : FE} {σ : St} {H : Hp} {Q : VK} (q : tN X.F (nDc n vs fl gg t fk fv) σ H Q) : tDg X n (iD X.F fl) (gD X.F gg vs) (tT X.F t) (tD X.F fk) (tD X.F fv) vs σ H Q := by
  obtain ⟨fx, ss, o, s3, f, eq, k⟩ := q
  obtain ⟨ds, s1, e1, eq⟩ := bind_ok eq
  split at eq
  rotate_left
  · cases eq
  rename_i out sE hcomp
  cases eq
  refine ⟨fx, ss, ds, s1, f, e1, fun J H1 k1 f1 w p hp => ?_⟩
  have fw : FR X.F fx (wipeS s1 vs) (L2.wipe σ vs) H1 := f1.wipe vs
  have nw : NewAt fx (wipeS s1 vs) (L2.wipe σ vs) p := fw.newAt hp
  have k1' : Kp H1 (upd H1 p (e0 X.w n p)) := .same (same_new hp)
  refine loopK_read (R := fun H2 => Q (.ref p) H2) (fun i H' kk => w i H' (k1'.trans kk)) (fw.new hp) nw (e0_own (K := X.F) n) hcomp fun H2 k2 f2 old ow => ?_
  have kk := k1'.trans k2
  exact k p H2 (k1.trans kk) (f1.back kk f2) ow (back_new nw.1 fun j s o a b => by
    obtain ⟨t', u, c, d⟩ := old j s o a b
    exact nw.2 j t' u c d)
variable {kx vx tg iter : Expr} {ifs : List Expr} {scope : Scope} {pos : Pos} {fl : FL} {gg : GF} {t : FB} {fk fv : FE}
theorem xdc (n : Bool) (own : List (Str × Nat)) (hu : X.A.units + 64 < cLine) (nd : X.N.Nodup) (hi : PI X tg iter (iD X.F fl)) (ok : blkC X.N X.env.scope scope own = true)
    (hg : ∀ (s : Shared) (H : Hp) (C : Addr) (cl : List (Str × Addr)) (fp : List Addr), PG (X.blk s H scope (compEnvC scope cl C X.env) fp) tg (gD X.F gg (own.map (·.2)))) (ht : ∀ (s : Shared) (H : Hp) (C : Addr) (cl : List (Str × Addr)) (fp : List Addr), PTs (X.blk s H scope (compEnvC scope cl C X.env) fp) ifs (tT X.F t))
    (hk : ∀ (s : Shared) (H : Hp) (C : Addr) (cl : List (Str × Addr)) (fp : List Addr), PE (X.blk s H scope (compEnvC scope cl C X.env) fp) kx (tD X.F fk))
    (hv : ∀ (s : Shared) (H : Hp) (C : Addr) (cl : List (Str × Addr)) (fp : List Addr), PE (X.blk s H scope (compEnvC scope cl C X.env) fp) vx (tD X.F fv)) (hc : X.calm = true := by rfl) (hs : ∀ x, foldedSetIterable iter X.env x = pure x := by intro _; rfl) :
    PE X (.DictComp kx vx [⟨tg, iter, ifs, 0⟩] scope pos) (tN X.F (nDc n (own.map (·.2)) fl gg t fk fv)) :=
  (pe_dg hu hc nd hi (blkOk_by ok) hg ht hk hv hs).imp fun σ H Q q => dc_read q
theorem xsetDc (n : Bool) (i : Nat) {y : Str} {py spos : Pos} (own : List (Str × Nat)) (hu : X.A.units + 64 < cLine) (nd : X.N.Nodup) (hi : PI X tg iter (iD X.F fl)) (ok : blkC X.N X.env.scope scope own = true)
    (hg : ∀ (s : Shared) (H : Hp) (C : Addr) (cl : List (Str × Addr)) (fp : List Addr), PG (X.blk s H scope (compEnvC scope cl C X.env) fp) tg (gD X.F gg (own.map (·.2)))) (ht : ∀ (s : Shared) (H : Hp) (C : Addr) (cl : List (Str × Addr)) (fp : List Addr), PTs (X.blk s H scope (compEnvC scope cl C X.env) fp) ifs (tT X.F t))
    (hk : ∀ (s : Shared) (H : Hp) (C : Addr) (cl : List (Str × Addr)) (fp : List Addr), PE (X.blk s H scope (compEnvC scope cl C X.env) fp) kx (tD X.F fk))
    (hv : ∀ (s : Shared) (H : Hp) (C : Addr) (cl : List (Str × Addr)) (fp : List Addr), PE (X.blk s H scope (compEnvC scope cl C X.env) fp) vx (tD X.F fv))
    (hsw : swapsWith (.DictComp kx vx [⟨tg, iter, ifs, 0⟩] scope pos) (some (.Name y py)) spos.line X.env = pure true) (hy : X.N[i]? = some y := by rfl) (hyl : X.env.scope.names.lookup y = some .local := by rfl) (hc : X.calm = true := by rfl) (hs : ∀ x, foldedSetIterable iter X.env x = pure x := by intro _; rfl) :
    PS X (.Assign [.Name y py] (.DictComp kx vx [⟨tg, iter, ifs, 0⟩] scope pos) spos) (tAsg (tN X.F (nDc n (own.map (·.2)) fl gg t fk fv)) (gName i)) :=
  (ps_setDg hu hc nd hy hyl hsw hi (blkOk_by ok) hg ht hk hv hs).imp fun E σ H q => dc_read q
end
section
variable {X : Cx}
/-- x, y = {}, {} -/
def tE0 (X : Cx) (n : Bool) : TE := fun _ H Q => ∀ p, H p = none → Q (.ref p) (upd H p (e0 X.w n p))
theorem pe_e0 (n : Bool) {pos : Pos} : PE X (.Dict [] [] pos) (tE0 X n) := ⟨fun pins s σ H Q I h =>
  wpAny_Dict_empty ⟨.ref s.heap.objs.size, _, I.laid (a := s.heap.objs.size) (t' := s.toks) (fun _ _ q => Heap.get?_push_of_some _ q) (Nat.le_refl _) (e0_ok (n := n) I.big), rfl, h _ (I.hok.fresh (Nat.le_refl _))⟩⟩
def sPar2E (i j : Nat) (n1 n2 : Bool) : FS := fun ss => if i < ss.length ∧ j < ss.length then .nx ((ss.set i (.own (mkO n1 []))).set j (.own (mkO n2 []))) else .no
theorem spar2E {i j : Nat} {n1 n2 : Bool} {st : Stmt} (h : PS X st (tPar i j (tCons (tE0 X n1) (tCons (tE0 X n2) tNil)))) : PS X st (tS X.F (sPar2E i j n1 n2)) := by
  refine h.imp fun E σ H q => ?_
  obtain ⟨fx, ss, fr, k⟩ := tS_iff.mp q
  unfold sPar2E at k
  split at k
  rotate_left
  · exact k.elim
  rename_i hl
  intro p hp q hq
  have f1 := (fr.new (o := e0 X.w n1 p) hp).own (i := i) hl.1 (e0_own (K := X.F) n1) ((fr.newAt hp))
  have f2 := (f1.new (o := e0 X.w n2 q) hq).own (i := j) (by rw [List.length_set]; exact hl.2) (e0_own (K := X.F) n2) (f1.newAt hq)
  exact ⟨_, _, rfl, k _ _ ((Kp.same (same_new hp)).trans (.same (same_new hq))) f2⟩
end
end Dt

/-! Dt19: head, *rest = a tuple. -/
namespace Dt
open PySem PySem.Spec L2
open PyProof.Rows hiding St
theorem walks_shift {prog : Program} {w : World} {A : Around} {I : Addr} {fp wr : List Addr} {n k : Nat} {P : Nat → Value → Prop} {St : Nat → Heap → Prop} (W : Walks prog w A I fp wr n P St) (hk : k ≤ n) : Walks prog w A I fp wr (n - k) (fun i v => P (i + k) v) (fun i h => St (i + k) h) where
  sub := W.sub
  frame := fun i => W.frame (i + k)
  item := fun i s Q E hi st hQ => W.item (i + k) s Q E (by omega) st fun v h' tk p st' hb => hQ v h' tk p (by rw [Nat.add_right_comm]; exact st') hb
  done := fun s Q E st hQ => W.done s Q E (by rw [Nat.sub_add_cancel hk] at st; exact st) hQ
  self := fun i s Q E st hQ => W.self (i + k) s Q E st hQ
section
variable {prog : Program} {w : World} {A : Around} {E : Value → Shared → Prop} {s : Shared}
theorem collect_rest {it t : Addr} {u : Value} {us : List Value} {Q : List Value → Shared → Prop} (hh : A.handled = none) (hi : IsTupIter s.heap it t 1) (ht : IsTup s.heap t (u :: us).toArray) (hz : us.length ≤ sizeLine)
    (hQ : ∀ h' t', (∀ b o, b ≠ it → s.heap.get? b = some o → h'.get? b = some o) → Q us { s with heap := h', toks := t' }) : wpAny (model prog w) A (collect (.ref it)) Q E s := by
  have hne : t ≠ it := by
    rintro rfl
    obtain ⟨o, h1, h2, _⟩ := hi
    obtain ⟨o', g1, g2, _⟩ := ht
    rw [h1] at g1
    cases g1
    rw [h2] at g2
    exact absurd g2 (by decide)
  have W := (walks_shift (k := 1) (Walks.tuple (prog := prog) (w := w) (A := A.in1) hh it t hne (u :: us).toArray) (by simp)).toS
  have hsz : (u :: us).toArray.size - 1 = us.length := by simp
  refine wpAny_collect_iter (T := "tuple_iterator") (.inr (.inr (.inr rfl))) W (fun i s st => let ⟨o, h1, h2, _⟩ := st.1; ⟨o, h1, h2⟩) ⟨hi, ht⟩ (fun b hb => ?_) (by simp) (fun s' acc mv io => ?_) (by rw [hsz]; exact hz)
  · simp only [List.mem_cons, List.not_mem_nil, or_false] at hb
    rcases hb with rfl | rfl
    · obtain ⟨o, h1, _⟩ := hi; exact Heap.lt_size h1
    · obtain ⟨o, h1, _⟩ := ht; exact Heap.lt_size h1
  · have e : acc.toList = us := by
      apply List.ext_getElem?
      intro j
      rw [hsz] at io
      by_cases hj : j < acc.size
      · have h1 : acc[j]? = some acc[j] := Array.getElem?_eq_getElem hj
        have h2 := io.2 j _ h1
        have h3 : (u :: us)[j + 1]? = some acc[j] := by simpa using h2
        rw [List.getElem?_cons_succ] at h3
        rw [h3, Array.getElem?_toList, h1]
      · have h1 : us.length ≤ j := by have := io.1; omega
        rw [List.getElem?_eq_none h1, List.getElem?_eq_none (by rw [Array.length_toList]; omega)]
    rw [e]
    obtain ⟨h', g', d', t', o'⟩ := s'
    obtain ⟨m1, m2, m3, m4, m5⟩ := mv
    simp only at m2 m3 m4
    subst m2 m3 m4
    exact hQ h' t' fun b o hb => m1 b o (by simpa using hb)
theorem unpack_star {t : Addr} {u : Value} {us : List Value} {Q : List Value → Shared → Prop} (hh : A.handled = none) (ht : IsTup s.heap t (u :: us).toArray) (hz : us.length ≤ sizeLine)
    (hQ : ∀ (h' : Heap) (t' : Nat), (∀ b o, s.heap.get? b = some o → h'.get? b = some o) → Q [u, .ref h'.objs.size] { s with heap := h'.push { cls := .type "list", data := .seq us.toArray }, toks := t' }) : wpAny (model prog w) A (unpackItems (.ref t) 2 (some 1)) Q E s := by
  have hlt : t ≠ s.heap.objs.size := by obtain ⟨o, ho, _⟩ := ht; exact Nat.ne_of_lt (Heap.lt_size ho)
  unfold unpackItems
  refine wpAny_bind ?_
  unfold notIterableAtAll
  refine wpAny_bind (wpAny_specialOf ht.typeIs slot_tuple_iter.lookup ?_)
  refine wpAny_pure ?_
  simp only [Bool.false_eq_true, if_false]
  refine wpAny_bind (wpAny_holding (iter_tuple ht ?_))
  refine wpAny_bind (wpAny_holding (draw_tuple hlt 1 0 _ _ ⟨_, Heap.get?_push_size _ rfl, rfl, rfl⟩ (ht.push _) (by simp) fun h₁ hit₁ hs₁ => ?_))
  have ht₁ : IsTup h₁ t (u :: us).toArray := (ht.push _).extBut hs₁.extBut hlt
  show wpAny _ _ (if ([u] : List Value).length < 1 then _ else _) _ _ _
  rw [if_neg (show ¬ ([u] : List Value).length < 1 from Nat.lt_irrefl 1)]
  refine wpAny_bind (wpAny_holding (collect_rest hh hit₁ ht₁ hz fun h₂ t₂ hk => ?_))
  simp only
  have e1 : ¬ us.length < 2 - 1 - 1 := by omega
  rw [if_neg e1]
  refine wpAny_bind (wpAny_newObj_type ?_ ?_)
  · refine wpAny_pure ?_
    have e2 : us.length - (2 - 1 - 1) = us.length := by omega
    have e3 : List.take 1 (List.drop 0 (u :: us)) ++ [Value.ref h₂.objs.size] ++ List.drop (us.length - (2 - 1 - 1)) us = [u, .ref h₂.objs.size] := by
      rw [e2, List.drop_length]
      rfl
    show Q (List.take 1 (List.drop 0 (u :: us)) ++ [Value.ref h₂.objs.size] ++ List.drop (us.length - (2 - 1 - 1)) us) { s with heap := h₂.push { cls := .type "list", data := .seq (List.take (us.length - (2 - 1 - 1)) us).toArray }, toks := t₂ }
    rw [e3, e2, List.take_length]
    refine hQ h₂ t₂ fun b o hb => ?_
    have hb1 : b ≠ s.heap.objs.size := Nat.ne_of_lt (Heap.lt_size hb)
    exact hk b o hb1 (hs₁.extBut b o hb1 (Heap.get?_push_of_some _ hb))
  · show (List.take (us.length - (2 - 1 - 1)) us).toArray.size ≤ sizeLine
    rw [List.size_toArray, List.length_take]
    omega
end
section
variable {X : Cx}
/-- (a, *b) = a tuple -/
def gStar (g : List D → SS → Option SS) : GF := fun d ss => match d with
  | .tuple (d0 :: ds) => g [d0, .list ds] ss
  | _ => none
theorem gst {es es' : List Expr} {k : Nat} {pos : Pos} {ws : List Nat} {g : List D → SS → Option SS} (hc : X.calm = true) (h : PGs X es' (gsD X.F g ws)) (he : (assignEach es X.env).map (·.2) = (assignEach es' X.env).map (·.2) := by rfl) (hn : (assignEach es X.env).length = 2 := by rfl) (hst : (assignEach es X.env).findIdx? (·.1) = some 1 := by rfl) :
    PG X (.Tuple es k pos) (gD X.F (gStar g) ws) := by
  refine ⟨fun pins s σ H v u Q I r q => ?_⟩
  obtain ⟨fx, ss, d, ss', fr, rp, e, kk⟩ := q
  unfold gStar at e
  split at e
  rotate_left
  · cases e
  rename_i d0 ds
  obtain ⟨a, xs, rfl, h1, r1⟩ := rp.tupv
  cases r
  cases r1
  rename_i v0 vs r0 r1
  obtain ⟨its, rv, ht, hz⟩ := I.tuple h1
  cases rv
  rename_i u0 us rv0 rv1
  have hl := rv1.length
  rw [List.length_cons] at hz
  show wpAny _ _ (do standAt pos; unpack (.ref a) (assignEach es X.env)) _ _ s
  refine wpAny_bind (wpAny_standAt ?_)
  unfold unpack
  rw [hn, hst, he]
  refine wpAny_bind (wpAny_holding (unpack_star (I.ok.hd hc) ht (by omega) fun h' t' hk => ?_))
  have Ia : Inv X pins σ H { s with heap := h', toks := t' } := I.kept hk
  have Ib : Inv X pins σ (upd H h'.objs.size (.lst vs)) { s with heap := h'.push { cls := .type "list", data := .seq us.toArray }, toks := t' } := by
    exact Ia.lnew (t' := t') rv1 (by omega)
  have fa := fr.new (o := .lst vs) (Ia.hok.fresh (Nat.le_refl _))
  have na := fr.newAt (Ia.hok.fresh (Nat.le_refl _))
  obtain ⟨od, Ic⟩ := Ib.lock upd_same trivial
  have k1 : Kp H (upd H h'.objs.size (.lst vs)) := .same (same_new (Ia.hok.fresh (Nat.le_refl _)))
  have k2 := Kp.upd (u := .frz od (.lst vs)) (upd_same (H := H) (a := h'.objs.size) (o := .lst vs)) loose_lst
  have fb := fa.lock na upd_same loose_lst (o := .frz od (.lst vs))
  have rl : Rep X.F (upd (upd H h'.objs.size (.lst vs)) h'.objs.size (.frz od (.lst vs))) (.ref h'.objs.size) (.list ds) := .lst (.inl ⟨od, upd_same⟩) (r1.kp (k1.trans k2))
  exact h.run pins _ σ _ [v0, .ref h'.objs.size] [u0, .ref h'.objs.size] Q Ic (.cons rv0 (.cons rfl .nil)) ⟨fx, ss, [d0, .list ds], ss', fb, .cons (r0.kp (k1.trans k2)) (.cons rl .nil), e, fun σ2 H2 hw k3 f2 => kk σ2 H2 hw ((k1.trans k2).trans k3) f2⟩
end
end Dt

set_option maxHeartbeats 4000000
/-! Dt20: sets of texts: adds, the walk of set(xs), sorted of it. -/
namespace DtX
open PySem PySem.Spec PyProof.Rows L2
open PySem.Froz (SD sObj TxOk addTx tailTx)
theorem tail_ris {ep : Nat} {es1 : Array (Int × Value)} {t2 : SetTable} {wd : Bool} (r : Ris t2.place.toList) : Ris (tailTx ep es1 t2 wd).2.2.place.toList := by
  unfold tailTx
  split
  · exact relayAll_ris _ _ _
  · exact r
theorem tail_led {ep : Nat} {es1 : Array (Int × Value)} {t2 : SetTable} {wd : Bool} (r : t2.led = true) : (tailTx ep es1 t2 wd).2.2.led = true := by
  unfold tailTx
  split
  · exact (relayAll_led _ _ _).trans r
  · exact r
theorem add_ris {h : Int} {v : Value} {D : SD} (r : Ris D.2.2.place.toList) : Ris (addTx h v D).2.2.place.toList := by
  unfold addTx
  refine tail_ris ?_
  have q := layNew_ris D.2.2 D.1 h v r
  split <;> exact q
theorem add_led {h : Int} {v : Value} {D : SD} (r : D.2.2.led = true) : (addTx h v D).2.2.led = true := by
  unfold addTx
  refine tail_led ?_
  have q := (layNew_led D.2.2 D.1 h v).trans r
  split <;> exact q
/-- the set of texts at a: l, each once -/
def TxS (P : Program) (w : World) (h : Heap) (a : Addr) (l : List Str) : Prop := ∃ D : SD, h.get? a = some (sObj "set" D) ∧ TxOk P w D l ∧ l.Nodup ∧ Ris D.2.2.place.toList ∧ (w.params.followText "set-order" = true ∨ D.2.2.led = true)
section
variable {P : Program} {w : World} {A : Around} {E : Value → Shared → Prop} {s : Shared} {a : Addr} {l : List Str}
theorem TxS.at {h h' : Heap} (R : TxS P w h a l) (k : ∀ o, h.get? a = some o → h'.get? a = some o) : TxS P w h' a l := by
  obtain ⟨D, ho, r⟩ := R
  exact ⟨D, k _ ho, r⟩
theorem txs_new {h : Heap} (ho : h.get? a = some { cls := .type "set", dict := none, data := .set #[] 0 (.fresh 0 0 (!w.params.followText "set-order")) }) : TxS P w h a [] :=
  ⟨(#[], 0, .fresh 0 0 (!w.params.followText "set-order")), ho, PySem.Froz.TxOk.nil rfl, List.nodup_nil, List.Pairwise.nil, by
    show _ ∨ (!w.params.followText "set-order") = true
    cases w.params.followText "set-order"
    · exact .inr rfl
    · exact .inl rfl⟩
theorem txs_add {k : Str} {u : Tok} {Q : Bool → Shared → Prop} (R : TxS P w s.heap a l) (room : l.length + 1 < scanBound)
    (hQ : ∀ h' l' b, Heap.SameBut a s.heap h' → TxS P w h' a l' → (∀ j, j ∈ l' ↔ j ∈ l ∨ j = k) → l'.length ≤ l.length + 1 → Q b { s with heap := h' }) :
    wpAny (model P w) A (setAddHashed a (.str k u) (hashStr w k)) Q E s := by
  obtain ⟨D, ho, F, nd, ri, le⟩ := R
  by_cases hk : k ∈ l
  · obtain ⟨es, ep, t⟩ := D
    have hd : (sObj "set" (es, ep, t)).data = .set es ep t := rfl
    have hel : ElemsOf (strKind P w) es.toList := F.el
    have hsz : es.size = l.length := F.sz
    have hkey : (strKind P w).is k (.str k u) = true := PySem.Froz.is_str k u
    obtain ⟨e, he, q⟩ := (F.mem k).mp hk
    unfold setAddHashed setAddHashedIn
    refine wpAny_holding (wpAny_bind (wpAny_setState_of ho hd F.fit ?_))
    dsimp only
    rw [byScan_of rfl (by omega) hel]
    simp only [↓reduceIte]
    unfold setAddByScan
    refine wpAny_bind ?_
    refine wpAny_bind (wpAny_rule ?_)
    refine wpAny_bind (wpAny_setScan_of (knd := strKind P w) (k := k) hkey ho hd F.fit hel ?_)
    cases hfi : List.findIdx? (fun e => (strKind P w).is k e.2) es.toList with
    | some j =>
      dsimp only
      exact wpAny_pure (wpAny_pure (hQ s.heap l false (Heap.SameBut.refl a s.heap) ⟨_, ho, F, nd, ri, le⟩ (fun j => ⟨.inl, fun z => z.elim id fun z => z ▸ hk⟩) (Nat.le_succ _)))
    | none =>
      have c := List.findIdx?_eq_none_iff.mp hfi e he
      rw [q] at c
      cases c
  · refine PySem.Froz.add_x ho F hk room (hQ _ (k :: l) true (Heap.SameBut.update s.heap a _) ⟨_, PySem.Froz.get_upd _ ho rfl, PySem.Froz.add_ok u F, List.nodup_cons.mpr ⟨hk, nd⟩, add_ris ri, le.imp id add_led⟩ (fun j => ?_) (Nat.le_refl _))
    rw [List.mem_cons]
    exact Or.comm
theorem update_txts {I : Addr} {fp wr : List Addr} {G : Array GenState → Array GenState → Prop} {n : Nat} {Pv : Nat → Value → Prop} {St : Nat → Shared → Prop} {R : Result → Shared → Prop}
    (W : WalksS P w A.in1 I fp wr G n Pv St) (S : Addr) (hSf : S ∉ fp) (ns : List Str) (hn : n = ns.length) (hb : ns.length + 1 < scanBound) (hval : ∀ i v, Pv i v → ∃ k t, ns[i]? = some k ∧ v = .str k t) :
    ∀ (m i : Nat) (s : Shared), n - i = m → i ≤ n → St i s → (∃ l, TxS P w s.heap S l ∧ l.length ≤ i ∧ ∀ j, j ∈ l ↔ j ∈ ns.take i) →
      (∀ s' l, Moved (S :: wr) G s s' → TxS P w s'.heap S l → l.length ≤ n → (∀ j, j ∈ l ↔ j ∈ ns) → R (.ok (.ret .none)) s') →
      codeAny (model P w) A (.builtin "set.update.loop" ⟨[.ref S, .ref I], []⟩) R s := by
  have hSw : S ∉ wr := fun h => hSf (W.sub _ h)
  have up : ∀ b ∈ wr, b ∈ S :: wr := fun b hb => List.mem_cons_of_mem _ hb
  intro m
  induction m with
  | zero =>
    intro i s hm hi st ⟨l, hS, hl, hmem⟩ hR
    have hin : i = n := by omega
    subst hin
    refine codeAny_builtin F.entry_set_update_loop ?_
    rw [Around.under_plainId F.plain_set_update_loop _]
    refine wpAny_bind (W.done s _ _ st fun s' mv => ?_)
    have e : ns.take i = ns := List.take_of_length_le (by omega)
    rw [e] at hmem
    exact wpAny_pure (hR s' l (mv.mono up) (hS.at fun o z => mv.heap S o hSw z) hl hmem)
  | succ m ih =>
    intro i s hm hi st ⟨l, hS, hl, hmem⟩ hR
    have hlt : i < n := by omega
    refine codeAny_builtin F.entry_set_update_loop ?_
    rw [Around.under_plainId F.plain_set_update_loop _]
    refine wpAny_bind (W.item i s _ _ hlt st fun v s' hP st' mv => ?_)
    obtain ⟨z, t, hz, rfl⟩ := hval i v hP
    have hS' : TxS P w s'.heap S l := hS.at fun o q => mv.heap S o hSw q
    show wpAny _ A.in1 (holding [Value.str z t] (setAdd S (.str z t)) >>= _) _ _ s'
    refine wpAny_bind (wpAny_holding ?_)
    unfold setAdd
    refine wpAny_holding ?_
    refine wpAny_bind ((strKind P w).pyHash (k := z) (PySem.Froz.is_str _ _) ?_)
    refine txs_add (s := { s' with toks := s'.toks + 1 }) hS' (by omega) fun h' l' b same hS2 hm2 hl2 => ?_
    refine wpAny_pure ⟨plainId_quiet F.plain_set_update_loop _, ih (i + 1) _ (by omega) hlt (W.frame _ s' _ _ st' (Nat.le_succ _) fun b hb o q => ?_) ⟨l', hS2, by omega, fun j => ?_⟩ fun s'' l2 mv2 t2 c2 e2 => ?_⟩
    · rw [same.2 b (fun q : b = S => hSf (by rw [← q]; exact hb))]; exact q
    · rw [hm2, hmem, List.take_add_one, hz]
      simp [List.mem_append]
    · refine hR s'' l2 (Moved.trans W.gtrans ((mv.mono up).then_heap (Nat.le_succ _) fun b o hb q => ?_) mv2) t2 c2 e2
      rw [same.2 b (fun q : b = S => hb (by rw [q]; exact List.mem_cons_self))]; exact q
end
end DtX

set_option maxHeartbeats 4000000
/-! Dt21: set(xs) of a list, of a tuple of texts. -/
namespace DtX
open PySem PySem.Spec PyProof.Rows L2
theorem strs_get : ∀ {us : List Value} {ks : List Str} {i : Nat} {v : Value}, StrsAre us ks → us[i]? = some v → ∃ k t, ks[i]? = some k ∧ v = .str k t
  | _, _, i, v, .nil, e => by simp at e
  | _, _, 0, v, .cons k t r, e => by
    simp at e
    exact ⟨k, t, rfl, e.symm⟩
  | _, _, i + 1, v, .cons k t r, e => by
    rw [List.getElem?_cons_succ] at e ⊢
    exact strs_get r e
section
variable {P : Program} {w : World} {A : Around} {E : Value → Shared → Prop} {s : Shared}
theorem call_set_lstX {src : Addr} {items : Array Value} (ns : List Str) {Q : Value → Shared → Prop} (hh : A.handled = none) (hl : s.heap.IsList src items) (hit : StrsAre items.toList ns) (hb : ns.length + 1 < scanBound)
    (h : ∀ (h' : Heap) (tk : Nat) (l : List Str), TxS P w h' s.heap.objs.size l → l.length ≤ ns.length → (∀ j, j ∈ l ↔ j ∈ ns) → (∀ b o, s.heap.get? b = some o → h'.get? b = some o) → Q (.ref s.heap.objs.size) { s with heap := h', toks := tk }) :
    wpAny (model P w) A (call (.type "set") [.ref src]) Q E s := by
  have hisz : items.size = ns.length := by
    have q := StrsAre.length hit
    rw [Array.length_toList] at q
    exact q
  obtain ⟨c, tl, hmro⟩ := F.called_set.mro
  have hmade := F.called_set.made
  have hsub := F.called_set.sub
  refine wpAny_call (codeAny_of_tree ?_)
  show wpAny _ _ (callAny (.type "set") _) _ _ _
  refine wpAny_pure ⟨Code.quiet_builtin _ (by decide +kernel), codeAny_builtin F.entry_type_call ?_⟩
  rw [Around.under_plain (weight_type_call_type "set" [.ref src] []) rfl]
  have h1 := F.called_set.notType
  have h2 := F.called_set.canCreate
  have hct := F.typeCall_set_1 (.ref src)
  repeat (any_goals (first | assumption | wp_step))

  refine codeAny_mono (code_set_led1 (.ref src) (E := E) (Q₁ := fun obj s₁ => obj = .ref s.heap.objs.size ∧ s₁ = { s with heap := s.heap.push { cls := .type "set", dict := none, data := .set #[] 0 (.fresh 0 0 (!w.params.followText "set-order")) } }) ⟨rfl, rfl⟩) fun r s₁ hr => ?_
  cases r with
  | error e => exact hr
  | ok fl =>
    cases fl with
    | ret obj =>
      obtain ⟨rfl, rfl⟩ := hr
      have hS : (s.heap.push { cls := .type "set", dict := none, data := .set #[] 0 (.fresh 0 0 (!w.params.followText "set-order")) }).get? s.heap.objs.size = some { cls := .type "set", dict := none, data := .set #[] 0 (.fresh 0 0 (!w.params.followText "set-order")) } := Heap.get?_push_size _ rfl
      have hT : Shared.TypeIs { s with heap := s.heap.push { cls := .type "set", dict := none, data := .set #[] 0 (.fresh 0 0 (!w.params.followText "set-order")) } } (.ref s.heap.objs.size) "set" := ⟨_, hS, rfl⟩
      have hli := F.called_set.init.lookup
      have hbi := F.called_set.init.bind (.ref s.heap.objs.size)
      repeat (any_goals (first | assumption | wp_step))

      refine codeAny_mono (codeAny_call_builtin (R := wants (fun r s₂ => r = .none ∧ ∃ h' tk l, s₂ = { s with heap := h', toks := tk } ∧ TxS P w h' s.heap.objs.size l ∧ l.length ≤ ns.length ∧ (∀ j, j ∈ l ↔ j ∈ ns) ∧
          (∀ b o, s.heap.get? b = some o → h'.get? b = some o)) E) F.called_set.init.plain F.entry_set_init (check_set_init_1 hT ?_)) fun r₂ s₂ hr₂ => ?_
      · obtain ⟨ol, hol, hcl, nl, hdl⟩ := hl
        obtain ⟨ocls, odict, odata, oslots⟩ := ol
        simp only at hcl hdl
        subst hcl; subst hdl
        have hol' : (s.heap.push { cls := .type "set", dict := none, data := .set #[] 0 (.fresh 0 0 (!w.params.followText "set-order")) }).get? src = some { cls := .type "list", dict := odict, data := .seq items nl, slots := oslots } := Heap.get?_push_of_some _ hol
        have hsls := F.sub_list_set
        have hslf := F.sub_list_frozenset
        have hne : (Value.type "list" == Value.type "dict") = false := by decide
        have hl1 : (s.heap.push { cls := .type "set", dict := none, data := .set #[] 0 (.fresh 0 0 (!w.params.followText "set-order")) }).IsList src items := ⟨_, hol', rfl, nl, rfl⟩
        unfold Builtin.«set.__init__» noKeywords Builtin.Frozenset.updateFrom
        generalize hPI : pyIter = PI
        wp_walk
        subst hPI

        refine wpAny_pyIter_list hl1 ?_
        refine wpAny_bind (wpAny_runValue ?_)
        have hlS : src < s.heap.objs.size := Heap.lt_size hol
        have hh3 : A.in1.in1.in1.handled = none := by simp [hh]
        have hz1 : (s.heap.push { cls := .type "set", dict := none, data := .set #[] 0 (.fresh 0 0 (!w.params.followText "set-order")) }).objs.size = s.heap.objs.size + 1 := Heap.size_push ..
        have hneI : src ≠ (s.heap.push { cls := .type "set", dict := none, data := .set #[] 0 (.fresh 0 0 (!w.params.followText "set-order")) }).objs.size := by
          rw [Heap.size_push]; exact Nat.ne_of_lt (Nat.lt_succ_of_lt hlS)
        have hSf : s.heap.objs.size ∉ [(s.heap.push { cls := .type "set", dict := none, data := .set #[] 0 (.fresh 0 0 (!w.params.followText "set-order")) }).objs.size, src] := by
          rw [Heap.size_push]; simp only [List.mem_cons, List.mem_singleton, List.not_mem_nil, or_false, not_or]
          exact ⟨Nat.ne_of_lt (Nat.lt_succ_self _), Nat.ne_of_gt hlS⟩
        have hval : ∀ (i : Nat) (v : Value), items[i]? = some v → ∃ k t, ns[i]? = some k ∧ v = .str k t := fun i v hv =>
          strs_get hit (by rw [Array.getElem?_toList]; exact hv)
        refine update_txts ((Walks.list hh3 _ src hneI items).toS) s.heap.objs.size
          hSf ns hisz hb hval (items.size - 0) 0 _ (by omega) (Nat.zero_le _)
          ⟨⟨_, Heap.get?_push_size _ rfl, rfl, rfl⟩, (hl1.push _)⟩ ?hS0 ?hR
        case hS0 =>
          have hget : ((s.heap.push { cls := .type "set", dict := none, data := .set #[] 0 (.fresh 0 0 (!w.params.followText "set-order")) }).push { cls := .type "list_iterator", data := .fields #[.ref src, .int 0 0] }).get? s.heap.objs.size
              = some { cls := .type "set", dict := none, data := .set #[] 0 (.fresh 0 0 (!w.params.followText "set-order")) } := Heap.get?_push_of_some _ hS
          exact ⟨[], txs_new hget, Nat.le_refl 0, fun j => by simp⟩
        case hR =>
          intro s' l' hm hS' hc' he'
          obtain ⟨h', g2, d', tk', os'⟩ := s'
          have eg : g2 = s.gens := hm.gens
          have ed : d' = s.drawn := hm.drawn
          have eo : os' = s.os := hm.os
          subst eg; subst ed; subst eo
          show wpAny _ _ _ _ _ _
          refine wpAny_pure ?_
          show wpAny _ _ (ret Value.none) _ _ _
          rw [hisz] at hc'
          refine wpAny_pure ⟨rfl, h', tk', l', rfl, hS', hc', he', fun b o e => ?_⟩
          have hb0 : b < s.heap.objs.size := Heap.lt_size e
          have hb1 : b ≠ s.heap.objs.size := Nat.ne_of_lt hb0
          have hb2 : b ≠ (s.heap.push { cls := .type "set", dict := none, data := .set #[] 0 (.fresh 0 0 (!w.params.followText "set-order")) }).objs.size := by
            rw [Heap.size_push]; exact Nat.ne_of_lt (Nat.lt_succ_of_lt hb0)
          exact hm.heap b o (by simp only [List.mem_cons, List.mem_singleton, List.not_mem_nil, or_false, not_or]; exact ⟨hb1, hb2⟩) (Heap.get?_push_of_some _ (Heap.get?_push_of_some _ e))

      · cases r₂ with
        | error e => exact hr₂
        | ok fl₂ =>
          cases fl₂ with
          | ret r =>
            obtain ⟨rfl, h', tk, l', rfl, hS', hc', he', hk'⟩ := hr₂
            repeat (any_goals (first | assumption | wp_step))
            exact h _ _ _ hS' hc' he' hk'
          | _ => exact hr₂.elim
    | _ => exact hr.elim


theorem call_set_tupX {src : Addr} {items : Array Value} (ns : List Str) {Q : Value → Shared → Prop} (hh : A.handled = none) (hl : s.heap.IsTuple src items) (hit : StrsAre items.toList ns) (hb : ns.length + 1 < scanBound)
    (h : ∀ (h' : Heap) (tk : Nat) (l : List Str), TxS P w h' s.heap.objs.size l → l.length ≤ ns.length → (∀ j, j ∈ l ↔ j ∈ ns) → (∀ b o, s.heap.get? b = some o → h'.get? b = some o) → Q (.ref s.heap.objs.size) { s with heap := h', toks := tk }) :
    wpAny (model P w) A (call (.type "set") [.ref src]) Q E s := by
  have hisz : items.size = ns.length := by
    have q := StrsAre.length hit
    rw [Array.length_toList] at q
    exact q
  obtain ⟨c, tl, hmro⟩ := F.called_set.mro
  have hmade := F.called_set.made
  have hsub := F.called_set.sub
  refine wpAny_call (codeAny_of_tree ?_)
  show wpAny _ _ (callAny (.type "set") _) _ _ _
  refine wpAny_pure ⟨Code.quiet_builtin _ (by decide +kernel), codeAny_builtin F.entry_type_call ?_⟩
  rw [Around.under_plain (weight_type_call_type "set" [.ref src] []) rfl]
  have h1 := F.called_set.notType
  have h2 := F.called_set.canCreate
  have hct := F.typeCall_set_1 (.ref src)
  repeat (any_goals (first | assumption | wp_step))

  refine codeAny_mono (code_set_led1 (.ref src) (E := E) (Q₁ := fun obj s₁ => obj = .ref s.heap.objs.size ∧ s₁ = { s with heap := s.heap.push { cls := .type "set", dict := none, data := .set #[] 0 (.fresh 0 0 (!w.params.followText "set-order")) } }) ⟨rfl, rfl⟩) fun r s₁ hr => ?_
  cases r with
  | error e => exact hr
  | ok fl =>
    cases fl with
    | ret obj =>
      obtain ⟨rfl, rfl⟩ := hr
      have hS : (s.heap.push { cls := .type "set", dict := none, data := .set #[] 0 (.fresh 0 0 (!w.params.followText "set-order")) }).get? s.heap.objs.size = some { cls := .type "set", dict := none, data := .set #[] 0 (.fresh 0 0 (!w.params.followText "set-order")) } := Heap.get?_push_size _ rfl
      have hT : Shared.TypeIs { s with heap := s.heap.push { cls := .type "set", dict := none, data := .set #[] 0 (.fresh 0 0 (!w.params.followText "set-order")) } } (.ref s.heap.objs.size) "set" := ⟨_, hS, rfl⟩
      have hli := F.called_set.init.lookup
      have hbi := F.called_set.init.bind (.ref s.heap.objs.size)
      repeat (any_goals (first | assumption | wp_step))

      refine codeAny_mono (codeAny_call_builtin (R := wants (fun r s₂ => r = .none ∧ ∃ h' tk l, s₂ = { s with heap := h', toks := tk } ∧ TxS P w h' s.heap.objs.size l ∧ l.length ≤ ns.length ∧ (∀ j, j ∈ l ↔ j ∈ ns) ∧
          (∀ b o, s.heap.get? b = some o → h'.get? b = some o)) E) F.called_set.init.plain F.entry_set_init (check_set_init_1 hT ?_)) fun r₂ s₂ hr₂ => ?_
      · obtain ⟨ol, hol, hcl, nl, hdl⟩ := hl
        obtain ⟨ocls, odict, odata, oslots⟩ := ol
        simp only at hcl hdl
        subst hcl; subst hdl
        have hol' : (s.heap.push { cls := .type "set", dict := none, data := .set #[] 0 (.fresh 0 0 (!w.params.followText "set-order")) }).get? src = some { cls := .type "tuple", dict := odict, data := .seq items nl, slots := oslots } := Heap.get?_push_of_some _ hol
        have hsls := F.sub_tuple_set
        have hslf := F.sub_tuple_frozenset
        have hne : (Value.type "tuple" == Value.type "dict") = false := by decide
        have hl1 : (s.heap.push { cls := .type "set", dict := none, data := .set #[] 0 (.fresh 0 0 (!w.params.followText "set-order")) }).IsTuple src items := ⟨_, hol', rfl, nl, rfl⟩
        unfold Builtin.«set.__init__» noKeywords Builtin.Frozenset.updateFrom
        generalize hPI : pyIter = PI
        wp_walk
        subst hPI

        refine wpAny_pyIter_tuple hl1 ?_
        refine wpAny_bind (wpAny_runValue ?_)
        have hlS : src < s.heap.objs.size := Heap.lt_size hol
        have hh3 : A.in1.in1.in1.handled = none := by simp [hh]
        have hz1 : (s.heap.push { cls := .type "set", dict := none, data := .set #[] 0 (.fresh 0 0 (!w.params.followText "set-order")) }).objs.size = s.heap.objs.size + 1 := Heap.size_push ..
        have hneI : src ≠ (s.heap.push { cls := .type "set", dict := none, data := .set #[] 0 (.fresh 0 0 (!w.params.followText "set-order")) }).objs.size := by
          rw [Heap.size_push]; exact Nat.ne_of_lt (Nat.lt_succ_of_lt hlS)
        have hSf : s.heap.objs.size ∉ [(s.heap.push { cls := .type "set", dict := none, data := .set #[] 0 (.fresh 0 0 (!w.params.followText "set-order")) }).objs.size, src] := by
          rw [Heap.size_push]; simp only [List.mem_cons, List.mem_singleton, List.not_mem_nil, or_false, not_or]
          exact ⟨Nat.ne_of_lt (Nat.lt_succ_self _), Nat.ne_of_gt hlS⟩
        have hval : ∀ (i : Nat) (v : Value), items[i]? = some v → ∃ k t, ns[i]? = some k ∧ v = .str k t := fun i v hv =>
          strs_get hit (by rw [Array.getElem?_toList]; exact hv)
        refine update_txts ((Walks.tuple hh3 _ src hneI items).toS) s.heap.objs.size
          hSf ns hisz hb hval (items.size - 0) 0 _ (by omega) (Nat.zero_le _)
          ⟨⟨_, Heap.get?_push_size _ rfl, rfl, rfl⟩, (hl1.push _)⟩ ?hS0 ?hR
        case hS0 =>
          have hget : ((s.heap.push { cls := .type "set", dict := none, data := .set #[] 0 (.fresh 0 0 (!w.params.followText "set-order")) }).push { cls := .type "tuple_iterator", data := .fields #[.ref src, .int 0 0] }).get? s.heap.objs.size
              = some { cls := .type "set", dict := none, data := .set #[] 0 (.fresh 0 0 (!w.params.followText "set-order")) } := Heap.get?_push_of_some _ hS
          exact ⟨[], txs_new hget, Nat.le_refl 0, fun j => by simp⟩
        case hR =>
          intro s' l' hm hS' hc' he'
          obtain ⟨h', g2, d', tk', os'⟩ := s'
          have eg : g2 = s.gens := hm.gens
          have ed : d' = s.drawn := hm.drawn
          have eo : os' = s.os := hm.os
          subst eg; subst ed; subst eo
          show wpAny _ _ _ _ _ _
          refine wpAny_pure ?_
          show wpAny _ _ (ret Value.none) _ _ _
          rw [hisz] at hc'
          refine wpAny_pure ⟨rfl, h', tk', l', rfl, hS', hc', he', fun b o e => ?_⟩
          have hb0 : b < s.heap.objs.size := Heap.lt_size e
          have hb1 : b ≠ s.heap.objs.size := Nat.ne_of_lt hb0
          have hb2 : b ≠ (s.heap.push { cls := .type "set", dict := none, data := .set #[] 0 (.fresh 0 0 (!w.params.followText "set-order")) }).objs.size := by
            rw [Heap.size_push]; exact Nat.ne_of_lt (Nat.lt_succ_of_lt hb0)
          exact hm.heap b o (by simp only [List.mem_cons, List.mem_singleton, List.not_mem_nil, or_false, not_or]; exact ⟨hb1, hb2⟩) (Heap.get?_push_of_some _ (Heap.get?_push_of_some _ e))

      · cases r₂ with
        | error e => exact hr₂
        | ok fl₂ =>
          cases fl₂ with
          | ret r =>
            obtain ⟨rfl, h', tk, l', rfl, hS', hc', he', hk'⟩ := hr₂
            repeat (any_goals (first | assumption | wp_step))
            exact h _ _ _ hS' hc' he' hk'
          | _ => exact hr₂.elim
    | _ => exact hr.elim


end
end DtX

/-! Dt22: the reading of sorted(set(xs)), texts, fewer than 64. -/
namespace DtX
open PySem PySem.Spec PyProof.Rows L2
theorem nodup_perm {α : Type} [DecidableEq α] : ∀ {l m : List α}, l.Nodup → (∀ x ∈ l, x ∈ m) → m.length = l.length → l.Perm m
  | [], m, _, _, h => by rw [List.eq_nil_of_length_eq_zero h]
  | x :: l, m, nd, hs, h => by
    obtain ⟨h1, h2⟩ := List.nodup_cons.mp nd
    have hx := hs x List.mem_cons_self
    have p := List.perm_cons_erase hx
    have q := nodup_perm (l := l) (m := m.erase x) h2 (fun y hy => (List.mem_erase_of_ne (fun e => h1 (by rw [← e]; exact hy))).mpr (hs y (List.mem_cons_of_mem _ hy))) (by rw [List.length_erase_of_mem hx, h, List.length_cons]; rfl)
    exact (q.cons x).trans p.symm
def txOf (v : Value) : Str := match v with | .str k _ => k | _ => Str.empty
section
variable {P : Program} {w : World} {A : Around} {E : Value → Shared → Prop} {s : Shared} {a : Addr} {l : List Str}
theorem strs_of : ∀ {vs : List Value}, (∀ v ∈ vs, ∃ k t, v = Value.str k t) → StrsAre vs (vs.map txOf)
  | [], _ => .nil
  | v :: vs, h => by
    obtain ⟨k, t, rfl⟩ := h v List.mem_cons_self
    exact .cons k t (strs_of fun u hu => h u (List.mem_cons_of_mem _ hu))
theorem sorted_txs {Q : Value → Shared → Prop} (R : TxS P w s.heap a l) (hh : A.handled = none) (h64 : l.length < 64)
    (hQ : ∀ s' p (out : Array Value) (c : Nat) (ys : List Str), (∀ b o, s.heap.get? b = some o → s'.heap.get? b = some o) → s'.gens = s.gens → s'.os = s.os → s.heap.objs.size ≤ p →
      s'.heap.get? p = some (seqObj "list" out c) → StrsAre out.toList ys → ys.Perm l → sortedS ys = true → Q (.ref p) s') :
    wpAny (model P w) A (call (.builtin "sorted") [.ref a]) Q E s := by
  obtain ⟨⟨es, ep, t⟩, ho, F, nd, ri, le⟩ := R
  have hsz : es.size = l.length := F.sz
  have isS : ∀ e ∈ es.toList, ∃ k u, e.2 = Value.str k u := fun e he => by
    obtain ⟨⟨k, hk, _⟩, _⟩ := F.el e he
    have hk : Value.isStrOf k e.2 = true := hk
    cases h : e.2 with
    | str x u => exact ⟨x, u, rfl⟩
    | _ => rw [h] at hk; simp [Value.isStrOf] at hk
  have hP : l.Perm (es.toList.map fun e => txOf e.2) := nodup_perm nd (fun k hk => by
    obtain ⟨e, he, q⟩ := (F.mem k).mp hk
    obtain ⟨x, u, h⟩ := isS e he
    have q : Value.isStrOf k e.2 = true := q
    rw [h] at q
    have : x = k := by simpa [Value.isStrOf] using q
    exact List.mem_map.mpr ⟨e, he, by rw [h]; exact this⟩) (by rw [List.length_map, Array.length_toList, hsz])
  refine Calls.call_function_entry kind_sorted plain_sorted entry_sorted (args_sorted1 _) ?_
  unfold Builtin.«sorted»
  refine wpAny_bind (m := checkCount "sorted" 1 1 _) (wpAny_pure ?_)
  refine wpAny_bind (collect_set (A := A.in1) hh ⟨_, ho, rfl, rfl⟩ F.fit (by show es.size < scanBound; unfold scanBound; omega) ri le fun s1 vs k1 hz g1 o1 pm => ?_)
  have hvl : vs.length = l.length := by rw [pm.length_eq, List.length_map, Array.length_toList]; exact hsz
  have hS : StrsAre vs (vs.map txOf) := strs_of fun v hv => by
    obtain ⟨e, he, q⟩ := List.mem_map.mp (pm.mem_iff.mp hv)
    obtain ⟨k, u, h⟩ := isS e he
    exact ⟨k, u, by rw [← q]; exact h⟩
  have pl : (vs.map txOf).Perm l := by
    have q := pm.map txOf
    rw [List.map_map] at q
    exact q.trans hP.symm
  refine wpAny_bind (wpAny_newList ?_ (by rw [hvl, sizeLine_eq]; omega))
  have hoL : (s1.heap.push (seqObj "list" vs.toArray 0)).get? s1.heap.objs.size = some (seqObj "list" vs.toArray 0) := Heap.get?_push_size _ rfl
  refine wpAny_bind (wpAny_holding (wpAny_call_entry slot_list_sort ⟨_, hoL, rfl⟩ entry_list_sort
    (list_sort_treeK strKind_oneLt hoL hS.keysOf (fun v₁ v₂ rest e => keyKind_strs (by rw [← e]; exact hS)) (by rw [hvl]; exact h64) fun st' hp hs => ⟨_, rfl, ?_⟩) (args_list_sort _)))
  obtain ⟨ys, g2, g3, g4⟩ := sorted_out_str hS hp hs
  obtain ⟨c, hc⟩ := sortedHeap_at (vs := vs) (out := (arrOf st').map (·.2)) hoL
  refine wpAny_pure ⟨_, rfl, hQ _ s1.heap.objs.size ((arrOf st').map (·.2)) c ys (fun b u e => ?_) g1 o1 hz hc g2 (g3.trans pl) g4⟩
  have q := k1 b u e
  have hlt := Heap.lt_size q
  show (sortedHeap (s1.heap.push (seqObj "list" vs.toArray 0)) s1.heap.objs.size vs ((arrOf st').map (·.2))).get? b = some u
  rw [sortedHeap_old (Nat.ne_of_lt hlt) (by rw [size_push']; exact Nat.lt_succ_of_lt hlt)]
  exact Heap.get?_push_of_some _ q
end
def ltS (a b : Str) : Bool := decide (a.cps.toList < b.cps.toList)
theorem ltS_tri {a b : Str} (h : ltS b a = false) (hn : a ≠ b) : ltS a b = true := by
  have h : ¬ b.cps.toList < a.cps.toList := of_decide_eq_false h
  refine decide_eq_true ?_
  by_cases c : a.cps.toList < b.cps.toList
  · exact c
  · refine absurd ?_ hn
    have := List.le_antisymm (List.not_lt.mp c) (List.not_lt.mp h)
    obtain ⟨⟨a⟩⟩ := a
    obtain ⟨⟨b⟩⟩ := b
    simp at this
    rw [this]
theorem ltS_trans {a b c : Str} (h : ltS a b = true) (k : ltS b c = true) : ltS a c = true := by
  have h := of_decide_eq_true h
  have k := of_decide_eq_true k
  exact decide_eq_true (List.lt_trans h k)
theorem ltS_irr (a : Str) : ltS a a = false := decide_eq_false (List.lt_irrefl _)
def insX (x : Str) : List Str → List Str
  | [] => [x]
  | y :: r => if ltS x y = true then x :: y :: r else if x = y then y :: r else y :: insX x r
/-- texts in order, each once -/
def usetX (ns : List Str) : List Str := ns.foldr insX []
theorem insX_mem (x k : Str) : ∀ l : List Str, k ∈ insX x l ↔ k = x ∨ k ∈ l
  | [] => by simp [insX]
  | y :: r => by
    unfold insX
    split
    · simp
    · split
      · rename_i h; subst h; simp
      · simp only [List.mem_cons, insX_mem x k r]
        constructor
        · rintro (h | h | h)
          · exact .inr (.inl h)
          · exact .inl h
          · exact .inr (.inr h)
        · rintro (h | h | h)
          · exact .inr (.inl h)
          · exact .inl h
          · exact .inr (.inr h)
theorem insX_pair (x : Str) : ∀ l : List Str, l.Pairwise (fun a b => ltS a b = true) → (insX x l).Pairwise (fun a b => ltS a b = true)
  | [], _ => by simp [insX]
  | y :: r, h => by
    obtain ⟨h1, h2⟩ := List.pairwise_cons.mp h
    unfold insX
    split
    · rename_i hx
      refine List.pairwise_cons.mpr ⟨fun z hz => ?_, h⟩
      rcases List.mem_cons.mp hz with rfl | hz
      · exact hx
      · exact ltS_trans hx (h1 z hz)
    · split
      · exact h
      · rename_i hx hne
        refine List.pairwise_cons.mpr ⟨fun z hz => ?_, insX_pair x r h2⟩
        rcases (insX_mem x z r).mp hz with rfl | hz
        · exact ltS_tri (by cases e : ltS z y with | true => exact absurd e hx | false => rfl) (fun e => hne e.symm)
        · exact h1 z hz
theorem usetX_mem (k : Str) : ∀ ns : List Str, k ∈ usetX ns ↔ k ∈ ns
  | [] => Iff.rfl
  | n :: ns => by
    show k ∈ insX n (usetX ns) ↔ _
    rw [insX_mem, usetX_mem k ns, List.mem_cons]
theorem usetX_pair : ∀ ns : List Str, (usetX ns).Pairwise (fun a b => ltS a b = true)
  | [] => .nil
  | n :: ns => insX_pair n _ (usetX_pair ns)
theorem xpair_ext : ∀ {l m : List Str}, l.Pairwise (fun a b => ltS a b = true) → m.Pairwise (fun a b => ltS a b = true) → (∀ k, k ∈ l ↔ k ∈ m) → l = m
  | [], [], _, _, _ => rfl
  | [], y :: m, _, _, e => absurd ((e y).mpr List.mem_cons_self) (by simp)
  | x :: l, [], _, _, e => absurd ((e x).mp List.mem_cons_self) (by simp)
  | x :: l, y :: m, h, k, e => by
    obtain ⟨h1, h2⟩ := List.pairwise_cons.mp h
    obtain ⟨k1, k2⟩ := List.pairwise_cons.mp k
    have no : ∀ {a b : Str}, ltS a b = true → ltS b a = true → False := fun {a b} p q => by
      have := ltS_trans p q
      rw [ltS_irr] at this
      cases this
    have a : x = y := by
      rcases List.mem_cons.mp ((e x).mp List.mem_cons_self) with h | h
      · exact h
      · rcases List.mem_cons.mp ((e y).mpr List.mem_cons_self) with h' | h'
        · exact h'.symm
        · exact (no (k1 x h) (h1 y h')).elim
    subst a
    refine congrArg (x :: ·) (xpair_ext h2 k2 fun z => ⟨fun hz => ?_, fun hz => ?_⟩)
    · rcases List.mem_cons.mp ((e z).mp (List.mem_cons_of_mem _ hz)) with rfl | h'
      · have := h1 z hz; rw [ltS_irr] at this; cases this
      · exact h'
    · rcases List.mem_cons.mp ((e z).mpr (List.mem_cons_of_mem _ hz)) with rfl | h'
      · have := k1 z hz; rw [ltS_irr] at this; cases this
      · exact h'
theorem rising_pair : ∀ (p : Str) (l : List Str), risingS p l = true → (p :: l).Pairwise (fun a b => ltS b a = false)
  | p, [], _ => List.pairwise_singleton _ _
  | p, x :: r, h => by
    unfold risingS at h
    rw [Bool.and_eq_true] at h
    have h1 : ltS x p = false := by
      have q := h.1
      rw [ltCps_eq] at q
      simpa [ltS] using q
    have ih := rising_pair x r h.2
    refine List.pairwise_cons.mpr ⟨fun y hy => ?_, ih⟩
    rcases List.mem_cons.mp hy with rfl | hy
    · exact h1
    · have h2 := (List.pairwise_cons.mp ih).1 y hy
      have h1 : ¬ x.cps.toList < p.cps.toList := of_decide_eq_false h1
      have h2 : ¬ y.cps.toList < x.cps.toList := of_decide_eq_false h2
      exact decide_eq_false (List.not_lt.mpr (List.le_trans (List.not_lt.mp h1) (List.not_lt.mp h2)))
theorem sortedS_strict {l : List Str} (h : sortedS l = true) (nd : l.Nodup) : l.Pairwise (fun a b => ltS a b = true) := by
  cases l with
  | nil => exact .nil
  | cons x r => exact ((rising_pair x r h).and nd).imp fun ⟨a, b⟩ => ltS_tri a b
end DtX
namespace Dt
open PySem PySem.Spec L2 DtX
open PyProof.Rows hiding St
section
variable {X : Cx} {a : Expr} {p p2 q pos : Pos} {f : FE}
def tSSX (K : PySem.W.Frag) (ta : TE) : TE := fun σ H Q => ta σ H fun x H1 => ∃ (l : Addr) (ns : List Str), x = .ref l ∧ (SqL K H1 l (ns.map V.str) ∨ SqT K H1 l (ns.map V.str)) ∧ ns.length < 64 ∧ ∀ p, H1 p = none → Q (.ref p) (upd H1 p (.lst ((usetX ns).map V.str)))
theorem pe_ssX {ta : TE} (hc : X.calm = true) (hg : Gl X "sorted") (hm : X.mg "sorted" = none) (hg2 : Gl X "set") (hm2 : X.mg "set" = none) (ha : PE X a ta)
    (na : starEach [a] X.env = (false, eval a X.env) :: starEach [] X.env := by rfl) : PE X (.Call (.Name "sorted" p) [.Call (.Name "set" p2) [a] [] q] [] pos) (tSSX X.F ta) := by
  refine ⟨fun pins s σ H Q I h => ?_⟩
  refine Call_ (ld_blt I hg hm PyProof.Rows.boot_sorted ?_)
  refine PyProof.Rows.callWith_builtin1 (PyProof.Rows.args_cons ?_ rfl) rfl rfl
  refine Call_ (ld_blt I hg2 hm2 boot_set ?_)
  refine PyProof.Rows.callWith_type1 (PyProof.Rows.args_cons (thn (ha.run pins s σ H _ I h) fun v s1 ⟨x, H1, I1, r1, q1⟩ => PyProof.Rows.args_nil ?_) na) na rfl
  obtain ⟨l, ns, rfl, hq, hl, k⟩ := q1
  cases r1
  have fin : ∀ (h' : Heap) (tk : Nat) (m : List Str), TxS X.prog X.w h' s1.heap.objs.size m → m.length ≤ ns.length → (∀ j, j ∈ m ↔ j ∈ ns) → (∀ b o, s1.heap.get? b = some o → h'.get? b = some o) →
      wpAny (model X.prog X.w) X.A (call (.builtin "sorted") [.ref s1.heap.objs.size]) (EP X pins σ Q) X.xe { s1 with heap := h', toks := tk } := fun h' tk m R hcn hmem hk => by
    have R : TxS X.prog X.w ({ s1 with heap := h', toks := tk } : Shared).heap s1.heap.objs.size m := R
    have I2 : Inv X pins σ H1 { s1 with heap := h', toks := tk } := I1.kept fun b o e => hk b o e
    generalize s1.heap.objs.size = q0 at R ⊢
    generalize ({ s1 with heap := h', toks := tk } : Shared) = s2 at I2 R ⊢
    refine sorted_txs (s := s2) R (I2.ok.hd hc) (by omega) fun s' p out c ys kk g o hp hgt hi2 hpm hs => ?_
    obtain ⟨_, _, _, nd, _⟩ := R
    have he : ys = usetX ns := xpair_ext (sortedS_strict hs (hpm.nodup_iff.mpr nd)) (usetX_pair ns) fun k => by rw [hpm.mem_iff, usetX_mem, hmem]
    subst he
    have hlen : ((usetX ns).map V.str).length ≤ sizeLine := by rw [List.length_map, hpm.length_eq, sizeLine_eq]; omega
    have hn : H1 p = none := I2.hok.fresh hp
    have J : Inv X pins σ (upd H1 p (.lst ((usetX ns).map V.str))) { s2 with heap := s'.heap, gens := s'.gens, drawn := s'.drawn, toks := s'.toks } :=
      I2.call (ch := []) (Un.laid kk hp hn) (I2.hok.laid kk hp ⟨hlen, out.toList, c, vals_of_strs hi2, hgt⟩) (by rw [g]; exact I2.bare) (fun _ z => nomatch z)
    have e : s' = { s2 with heap := s'.heap, gens := s'.gens, drawn := s'.drawn, toks := s'.toks } := by
      cases s'
      cases s2
      cases o
      rfl
    rw [e]
    exact ⟨.ref p, _, J, rfl, k p hn⟩
  rcases hq with hq | hq
  · obtain ⟨its, r, ht, hz⟩ := I1.list hq
    have hi : StrsAre its.toArray.toList ns := by simpa using r.strs
    exact call_set_lstX ns (I1.ok.hd hc) ht.isList hi (by unfold scanBound; omega) fun h' tk m R hcn hmem hk => PyProof.Rows.args_nil (fin h' tk m R hcn hmem hk)
  · obtain ⟨its, r, ht, hz⟩ := I1.tuple hq
    have hi : StrsAre its.toArray.toList ns := by simpa using r.strs
    exact call_set_tupX ns (I1.ok.hd hc) ht hi (by unfold scanBound; omega) fun h' tk m R hcn hmem hk => PyProof.Rows.args_nil (fin h' tk m R hcn hmem hk)
theorem rep_txts {K : Fg} {H : Hp} : ∀ ys : List Str, RepAll K H (ys.map V.str) (ys.map .str)
  | [] => .nil
  | y :: ys => .cons (.str y) (rep_txts ys)
/-- sorted(set(xs)) of ints in a list, of texts in a list or a tuple -/
def nSSA (f : FE) : FN := fun ss => (f ss).bind fun d s1 => match d with
  | .list ds => match ds.mapM asI with
    | some ns => if ns.length < 64 then .ok (.lst ((uset ns).map .int)) s1 else .no
    | none => match ds.mapM asS with
      | some ns => if ns.length < 64 then .ok (.lst ((usetX ns).map .str)) s1 else .no
      | none => .no
  | .tuple ds => match ds.mapM asS with
    | some ns => if ns.length < 64 then .ok (.lst ((usetX ns).map .str)) s1 else .no
    | none => .no
  | _ => .no
theorem xssA (hc : X.calm = true) (hm : X.mg "sorted" = none) (hm2 : X.mg "set" = none) (ha : PE X a (tD X.F f)) (hg : Gl X "sorted" := by rfl) (hg2 : Gl X "set" := by rfl)
    (na : starEach [a] X.env = (false, eval a X.env) :: starEach [] X.env := by rfl) : PE X (.Call (.Name "sorted" p) [.Call (.Name "set" p2) [a] [] q] [] pos) (tN X.F (nSSA f)) := by
  refine ⟨fun pins s σ H Q I w => ?_⟩
  obtain ⟨fx, ss, d, s3, fr, e, k⟩ := w
  obtain ⟨x, s1, e1, e⟩ := bind_ok e
  split at e
  · rename_i ds
    split at e
    · rename_i ns hns
      split at e
      · rename_i hl
        cases e
        refine (pe_ss hc hg hm hg2 hm2 ha na).run pins s σ H Q I ⟨fx, ss, _, _, fr, e1, fun v H1 k1 f1 r1 => ?_⟩
        obtain ⟨l, xs, rfl, g1, r1⟩ := r1.lstv
        rw [intsOf hns] at r1
        rw [r1.ints] at g1
        exact ⟨l, ns, rfl, g1.sq, hl, fun p hp => k p _ (k1.trans (.same (same_new hp))) (f1.same (same_new hp)) ⟨_, upd_same, rep_ints _⟩ (f1.newAt hp)⟩
      · cases e
    · split at e
      · rename_i ns hns
        split at e
        · rename_i hl
          cases e
          refine (pe_ssX hc hg hm hg2 hm2 ha na).run pins s σ H Q I ⟨fx, ss, _, _, fr, e1, fun v H1 k1 f1 r1 => ?_⟩
          obtain ⟨l, xs, rfl, g1, r1⟩ := r1.lstv
          rw [strsOf hns] at r1
          rw [r1.strs] at g1
          exact ⟨l, ns, rfl, .inl g1.sq, hl, fun p hp => k p _ (k1.trans (.same (same_new hp))) (f1.same (same_new hp)) ⟨_, upd_same, rep_txts _⟩ (f1.newAt hp)⟩
        · cases e
      · cases e
  · rename_i ds
    split at e
    · rename_i ns hns
      split at e
      · rename_i hl
        cases e
        refine (pe_ssX hc hg hm hg2 hm2 ha na).run pins s σ H Q I ⟨fx, ss, _, _, fr, e1, fun v H1 k1 f1 r1 => ?_⟩
        obtain ⟨l, xs, rfl, g1, r1⟩ := r1.tupv
        rw [strsOf hns] at r1
        rw [r1.strs] at g1
        exact ⟨l, ns, rfl, .inr g1, hl, fun p hp => k p _ (k1.trans (.same (same_new hp))) (f1.same (same_new hp)) ⟨_, upd_same, rep_txts _⟩ (f1.newAt hp)⟩
      · cases e
    · cases e
  · cases e
end
end Dt

/-! Dt23: a call that looks at an object of one's own, and leaves it as it is. -/
namespace Dt
open PySem PySem.Spec L2
open PyProof.Rows hiding St
section
variable {X : Cx} {CX : CXT} {k : Nat} {f : Addr} {fd : FuncData} {ps : List Str} {ds : List Value} {dvs : List V} {sp : Sp} {x : Str} {e : Expr} {es : List Expr} {p pos : Pos} {t : TA} {E : XK}
def tCallL (sp : Sp) (dvs : List V) (E : XK) (t : TA) : TE := fun σ H Q => t σ H fun vs H1 => ∃ d u, H1 d = some u ∧ Mut (some u) ∧ ∀ od, sp (vs ++ dvs) (upd H1 d (.frz od u)) (fun v H' => H' d = some (.frz od u) ∧ Q v (upd H' d u)) E
theorem pe_callL (F : FnOk X.prog X.w X.K X.mg X.base CX k f fd ps sp) (hr : Room k X.A) (hg : Gl X x) (hm : X.mg x = some (.ref f)) (hk : PySem.W.keepIn X.K (.ref f) = true) (hb : Binds X.K fd ps ds) (hd : Vals dvs ds) (hx : Passes CX X E)
    (ha : PA X (e :: es) t) (hdb : (x == ("__debug__" : Str)) = false := by decide) (he : starEach (e :: es) X.env = (false, eval e X.env) :: starEach es X.env := by rfl) (hpl : (backTo pos (starEach es X.env)).any (·.1) = false := by rfl) :
    PE X (.Call (.Name x p) (e :: es) [] pos) (tCallL sp dvs E t) := by
  refine ⟨fun pins s σ H Q I h => wpAny_Call_Name_kw (ld_glob I hg hm ?_ hdb)⟩
  refine PySem.W.callWith_K (h₀ := X.base) I.ok.mod.kin hk (thn (ha.run pos pins s σ H _ I h) fun us s1 ⟨vs, H1, I1, r, d, u, hd1, mu, q⟩ => ⟨I1.kIn, ?_⟩) he hpl
  obtain ⟨od, I2⟩ := I1.lock hd1 mu
  refine thn (run_fn F hr hb hd hx I2 r (q od)) fun v s2 ⟨x, H', I3, rx, hf, qq⟩ => ?_
  exact ⟨x, upd H' d u, I3.unlock hf (I1.nofrz hd1 mu), rx, qq⟩
end
/-- what holds no object -/
def flat : D → Bool
  | .none => true
  | .bool _ => true
  | .int _ => true
  | .str _ => true
  | _ => false
theorem flat_rep {K : Fg} {H H' : Hp} {v : V} {d : D} (h : flat d = true) (r : Rep K H v d) : Rep K H' v d := by
  cases d with
  | none => rw [r.nonv]; exact .non
  | bool b => cases r; exact .bl b
  | int i => rw [r.intv]; exact .int i
  | str x => rw [r.strv]; exact .str x
  | _ => cases h
/-- the k-th argument is looked at alone -/
def eCallP (F : FnS) (k : Nat) (a : SS → Res (List Ar)) : FE := fun ss => (a ss).bind fun as s1 => match as[k]? with
  | some (.ref i) => match objAt s1 i with
    | some o => if refs (as.set k (.d o.toD)) = [] then (match callAt F (as.set k (.d o.toD)) s1 with
      | some (.imm d, _) => if flat d = true then .ok d s1 else .no
      | _ => .no) else .no
    | none => .no
  | _ => .no
theorem refs_nil : ∀ {as : List Ar} {ss : SS} {args : List Sl}, refs as = [] → resolve ss as = some args → ∀ (i : Nat) (u : O), args[i]? ≠ some (.bor u)
  | [], _, _, _, e, i, u, h => by cases e; cases h
  | .d d :: r, ss, args, n, e, i, u, h => by
    obtain ⟨t, h1, rfl⟩ := Option.map_eq_some_iff.mp e
    cases i with
    | zero => cases h
    | succ i => exact refs_nil (as := r) n h1 i u h
  | .ref j :: r, _, _, n, _, _, _, _ => by cases n
section
variable {X : Cx} {kk : Nat} {f : Addr} {fd : FuncData} {ps : List Str} {F : FnS} {x : Str} {e : Expr} {es : List Expr} {p pos : Pos} {fa : SS → Res (List Ar)}
theorem xcallP (k : Nat) (G : FnOk X.prog X.w X.F X.mg X.base CX0 kk f fd ps (spOf X.F F ps.length)) (hr : Room kk X.A) (hm : X.mg x = some (.ref f)) (hk : PySem.W.keepIn X.F (.ref f) = true) (hb : Binds X.F fd ps []) (ha : PA X (e :: es) (tA X.F fa)) (hl : (e :: es).length = ps.length := by rfl) (hal : LenA fa (e :: es).length) (hg : Gl X x := by rfl)
    (hdb : (x == ("__debug__" : Str)) = false := by decide) (he : starEach (e :: es) X.env = (false, eval e X.env) :: starEach es X.env := by rfl) (hpl : (backTo pos (starEach es X.env)).any (·.1) = false := by rfl) : PE X (.Call (.Name x p) (e :: es) [] pos) (tD X.F (eCallP F k fa)) := by
  refine (pe_callL G hr hg hm hk hb .nil pass0 ha hdb he hpl).imp fun σ H Q q => ?_
  obtain ⟨fx, ss, d, s3, fr, e, kq⟩ := q
  obtain ⟨as, s1, e1, e⟩ := bind_ok e
  split at e
  rotate_left
  · cases e
  rename_i i hk2
  split at e
  rotate_left
  · cases e
  rename_i o ho
  split at e
  rotate_left
  · cases e
  rename_i hrf
  split at e
  rotate_left
  · cases e
  rename_i d2 s2 ec
  split at e
  rotate_left
  · cases e
  rename_i hfl
  cases e
  refine ⟨fx, ss, as, s3, fr, e1, fun vs H1 k1 f1 ra => ?_⟩
  obtain ⟨s0, e0, eo⟩ := objAt_some ho
  obtain ⟨q, h1, h2, _⟩ := (f1.slot i s0 e0).obj eo
  obtain ⟨u, hu, lu, mu, rp⟩ := OwnAt.loose h2
  refine ⟨q, u, hu, mu, fun od => ?_⟩
  have k2 : Kp H1 (upd H1 q (.frz od u)) := Kp.upd hu lu
  obtain ⟨al, ag⟩ := argsR_get ra
  obtain ⟨_, args, args', c1, c2, c3⟩ := callAt_some ec
  rw [List.append_nil]
  have hlen : as.length = ps.length := (hal _ _ _ e1).trans hl
  have nb := refs_nil hrf c1
  refine ⟨by rw [al, hlen], args, .imm d, args', ⟨?_, fun j sl v g1 g2 => ?_, fun i j o u v g1 _ _ _ => absurd g1 (nb i o)⟩, c2, fun v H' pc => ?_⟩
  · rw [resolve_len c1, List.length_set, al]
  · rcases resolve_get c1 g1 with ⟨d3, a, z⟩ | ⟨i', s', o', a, b, c, z⟩
    · subst z
      rw [List.getElem?_set] at a
      split at a
      · rename_i hj
        subst hj
        split at a
        · cases a
          cases ag k v _ g2 hk2 with
          | ref hs =>
            rw [h1] at hs
            cases hs
            exact rp od
        · cases a
      · cases ag j v _ g2 a with
        | d r => exact r.kp k2
    · subst z
      exact absurd g1 (nb j o')
  · have sm0 : ∀ a ob, (upd H1 q (.frz od u)) a = some ob → H' a = some ob := fun a ob z => pc.rest a ob z fun i' u' w1 _ => nb i' u' w1
    have hq : H' q = some (.frz od u) := sm0 q _ upd_same
    refine ⟨hq, ?_⟩
    have sm : Same H1 (upd H' q u) := fun a ob z => by
      by_cases c : a = q
      · subst c
        rw [upd_same, ← z, hu]
      · rw [upd_ne c]
        exact sm0 a ob (by rw [upd_ne c]; exact z)
    exact kq v _ (k1.trans (.same sm)) (f1.same sm) (flat_rep hfl pc.ret)
end
section
variable {X : Cx} {kk : Nat} {x : Str} {ps : List Str} {F : FnS} {e : Expr} {es : List Expr} {p pos : Pos} {fa : SS → Res (List Ar)}
theorem xcp (k : Nat) (G : Ok X.prog X.F X.mg X.base kk x ps F) (hr : Room kk X.A) (ha : PA X (e :: es) (tA X.F fa)) (hal : LenA fa (e :: es).length) (hl : (e :: es).length = ps.length := by rfl) (hg : Gl X x := by rfl)
    (hdb : (x == ("__debug__" : Str)) = false := by decide) (he : starEach (e :: es) X.env = (false, eval e X.env) :: starEach es X.env := by rfl) (hpl : (backTo pos (starEach es X.env)).any (·.1) = false := by rfl) : PE X (.Call (.Name x p) (e :: es) [] pos) (tD X.F (eCallP F k fa)) := by
  obtain ⟨f, fd, G, m, kp, bi⟩ := G
  exact xcallP k G hr m kp bi ha hl hal hg hdb he hpl
end
end Dt

/-! Dt24: enumerate of a tuple. -/
namespace DtE
open PySem PySem.Spec PyProof.Rows L2
open AutoSeq1 (wpAny_loadPart')
theorem draws_tuple {prog : Program} {w : World} {A : Around} (hh : A.handled = none) (it l : Addr) (hne : l ≠ it) (items : Array Value) :
    Draws prog w A it [it, l] items.size (fun i v => items[i]? = some v) (fun i h => h.IsTupleIter it l i ∧ h.IsTuple l items) where
  live := fun _ _ st => let ⟨o, ho, _⟩ := st.1; ⟨o, ho⟩
  frame := fun _ _ _ st hk => ⟨let ⟨o, ho, r⟩ := st.1; ⟨o, hk it (by simp) o ho, r⟩, let ⟨o, ho, r⟩ := st.2; ⟨o, hk l (by simp) o ho, r⟩⟩
  item := fun i s Q E hi st hQ => by
    refine wpAny_nextOf_tuple_item st.1 st.2 (x := items[i]) (by simp [hi]) fun h' hit' hs' => ?_
    exact hQ _ h' s.toks (by simp [hi]) ⟨hit', st.2.extBut hs'.extBut hne⟩ hs'
  done := fun s Q E st hE => wpAny_nextOf_tuple_end hh st.1 st.2 (by simp) hE
theorem enum_newT (l : Addr) (items : Array Value) (n : Nat) (dct : Option Addr) (sl : Array (Option Value)) :
    Meets (Builtin.«enumerate.__new__» ⟨[.type "enumerate", .ref l], []⟩) (fun _ R s => s.heap.get? l = some { cls := .type "tuple", dict := dct, data := .seq items n, slots := sl } ∧
      R (.ok (.ret (.ref (s.heap.push { cls := .type "tuple_iterator", data := .fields #[.ref l, .int 0 0] }).objs.size)))
        { s with heap := (s.heap.push { cls := .type "tuple_iterator", data := .fields #[.ref l, .int 0 0] }).push { cls := .type "enumerate", data := .fields #[.none, .bool false, .ref s.heap.objs.size, rawInt 0, .none, .none] } }) :=
  .of_wp fun prog w A R s h => by
    obtain ⟨hp, g, d, tk, os⟩ := s; obtain ⟨hl, h⟩ := h
    have hsub := sub_enumerate
    have hT : Heap.IsTuple (Shared.heap ⟨hp, g, d, tk, os⟩) l items := ⟨_, hl, rfl, n, rfl⟩
    wp_walk using wpAny_loadPart' hl
    refine wpAny_stack_any fun st => wpAny_pure ?_
    split
    · rename_i c _ _ _ _ _
      cases (c == Value.type "enumerate") <;> wp_walk using wpAny_loadPart' hl, wpAny_pyIter_tuple hT <;> exact ⟨_, rfl, h⟩
    · wp_walk using wpAny_loadPart' hl, wpAny_pyIter_tuple hT
      exact ⟨_, rfl, h⟩
section
variable {prog : Program} {w : World} {A : Around} {E : Value → Shared → Prop} {s : Shared}
theorem call_enumT {l : Addr} {items : Array Value} {Q : Value → Shared → Prop} (hL : s.heap.IsTuple l items)
    (h : ∀ h', IsEnum h' (s.heap.objs.size + 1) s.heap.objs.size 0 .none → h'.IsTupleIter s.heap.objs.size l 0 → (∀ b o, s.heap.get? b = some o → h'.get? b = some o) → Q (.ref (s.heap.objs.size + 1)) { s with heap := h' }) :
    wpAny (model prog w) A (call (.type "enumerate") [.ref l]) Q E s := by
  obtain ⟨⟨c, dct, dt, sl⟩, hl, hc, n, hd⟩ := hL
  replace hc : c = .type "tuple" := hc
  replace hd : dt = .seq items n := hd
  subst hc hd
  refine callType_new F.called_enumerate (by decide) (F.typeCall_enumerate_1 _) (F.newCall_enumerate_1 _) (fun obj => F.args_object_init_2 obj _) F.entry_enumerate_new (enum_newT l items n dct sl) ⟨hl, ?_⟩
  have hz : (s.heap.push { cls := .type "tuple_iterator", data := .fields #[.ref l, .int 0 0] }).objs.size = s.heap.objs.size + 1 := Heap.size_push ..
  show _ ∧ _
  rw [hz]
  have he : IsEnum ((s.heap.push { cls := .type "tuple_iterator", data := .fields #[.ref l, .int 0 0] }).push
      { cls := .type "enumerate", data := .fields #[.none, .bool false, .ref s.heap.objs.size, rawInt 0, .none, .none] }) (s.heap.objs.size + 1) s.heap.objs.size 0 .none := by
    have q := Heap.get?_push_size (s.heap.push { cls := .type "tuple_iterator", data := .fields #[.ref l, .int 0 0] })
      (o := { cls := .type "enumerate", data := .fields #[.none, .bool false, .ref s.heap.objs.size, rawInt 0, .none, .none] }) rfl
    rw [hz] at q
    exact q
  exact ⟨⟨_, he, rfl⟩, h _ he ⟨_, Heap.get?_push_of_some _ (Heap.get?_push_size _ rfl), rfl, rfl⟩ fun b o x => Heap.get?_push_of_some _ (Heap.get?_push_of_some _ x)⟩
end
theorem next_endT {prog : Program} {w : World} {A : Around} {E : Value → Shared → Prop} {s : Shared} {e it l : Addr} {i : Int} {j : Nat} {items : Array Value} {old : Value} {Q : Option Value → Shared → Prop} (hh : A.handled = none)
    (he : IsEnum s.heap e it i old) (hit : s.heap.IsTupleIter it l j) (hl : s.heap.IsTuple l items) (hx : items[j]? = none)
    (hQ : ∀ h', Heap.ExtBut it s.heap h' → Q none { s with heap := h' }) : wpAny (model prog w) A (pyNext (.ref e)) Q E s := by
  unfold pyNext
  refine wpAny_bind (wpAny_attempt (wpAny_callSpecial?_slot (name := Str.ofString "__next__") (T := "enumerate") ⟨_, he, rfl⟩ F.slot_enumerate_next
    (wpAny_call_entry F.slot_enumerate_next (T := "enumerate") ⟨_, he, rfl⟩ F.entry_enumerate_next ?_ (F.args_enumerate_next_1 _))))
  show wpAny _ A.in1 (field (Value.ref e) 2 >>= _) _ _ s
  refine wpAny_bind (wpAny_field he rfl (x := Value.ref it) rfl ?_)
  refine wpAny_bind (wpAny_nextOf_tuple_end (by exact hh) hit hl hx fun h' x eb hx' => ?_)
  obtain ⟨o, ho, hc⟩ := hx'
  refine wpAny_bind (wpAny_isInstance (T := "StopIteration") (b := true) ⟨o, ho, hc⟩ isSubtype_stop ?_)
  exact wpAny_pure (hQ _ eb)
/-- the tuple at a, each item in a new pair -/
def Iet (K : PySem.W.Frag) (a : Addr) : It :=
  ⟨fun i H => ∃ (xs : List V) (x : V), SqT K H a xs ∧ xs[i]? = some x, fun i H v H' => ∃ T x, v = .ref T ∧ H T = none ∧ H' = upd H T (.tup [.int (i : Nat), x]) ∧ ∀ xs, SqT K H a xs → xs[i]? = some x, fun i H => ∃ xs : List V, SqT K H a xs ∧ xs.length ≤ i⟩
theorem turn_enumT {P : Program} {w : World} {K : PySem.W.Frag} {elts : List Expr} {kk : Nat} {tpos : Pos} (a e it : Addr) :
    Turn P w K (.Tuple elts kk tpos) (Iet K a) [e, it] e (fun i h => (∃ old, IsEnum h e it ((i : Nat) : Int) old) ∧ h.IsTupleIter it a i ∧ e ≠ it) where
  mem := by simp
  obj := fun i h st b hb => by
    obtain ⟨⟨old, he⟩, ⟨o, ho, hc, hd⟩, _⟩ := st
    simp only [List.mem_cons, List.not_mem_nil, or_false] at hb
    rcases hb with rfl | rfl
    · exact ⟨_, he, fun v q => nomatch q⟩
    · exact ⟨o, ho, fun v q => by rw [hd] at q; cases q⟩
  keep := fun i h h' st k => let ⟨⟨old, he⟩, ⟨o, ho, r⟩, hne⟩ := st; ⟨⟨old, k e (by simp) _ he⟩, ⟨o, k it (by simp) _ ho, r⟩, hne⟩
  item := by
    intro X hP hw hK hc i pins s σ H E I hf st hg
    subst hP hw hK
    obtain ⟨⟨old, he⟩, hit, hne⟩ := st
    obtain ⟨xs, x, hq, hx⟩ := hg
    obtain ⟨its, rv, p, hz⟩ := I.tuple hq
    obtain ⟨u, hu, ru⟩ := rv.get hx
    have hel : e < s.heap.objs.size := Heap.lt_size he
    have hil : it < s.heap.objs.size := by obtain ⟨_, q, _⟩ := hit; exact Heap.lt_size q
    have hai : a ≠ it := by
      rintro rfl
      obtain ⟨o, q1, q2, _⟩ := hit
      obtain ⟨o', g1, g2, _⟩ := p
      rw [q1] at g1
      cases g1
      rw [q2] at g2
      exact absurd g2 (by decide)
    have hae : e ≠ a := by
      rintro rfl
      obtain ⟨o', g1, g2, _⟩ := p
      have he2 : s.heap.get? e = some _ := he
      rw [he2] at g1
      cases g1
      exact absurd (show Value.type "enumerate" = Value.type "tuple" from g2) (by decide)
    have hi : i < its.toArray.size := by rw [List.size_toArray]; exact (List.getElem?_eq_some_iff.mp hu).1
    refine wpAny_pyNext_enum_itemD (draws_tuple (by show X.A.in1.handled = none; exact I.ok.hd hc) it a hai its.toArray) he ⟨hit, p⟩ hi hne (by simp [hne, hae]) fun u2 h' tk hu2 ho hs2 hT hsz hk => ?_
    have eu : u2 = u := by
      have q : its[i]? = some u2 := by simpa using hu2
      rw [hu] at q
      exact (Option.some.inj q).symm
    subst eu
    refine ⟨_, rfl, wpAny_letOwnedTupleGo_enum (s := { s with heap := h', toks := tk + 1 }) ho fun h'' he' sb => ?_⟩
    have hT2 : h''.get? s.heap.objs.size = some { cls := .type "tuple", data := .seq #[.int i tk, u2] } := (sb.2 _ (Nat.ne_of_gt hel)).trans hT
    have new : ObjOk X.prog X.w (upd H s.heap.objs.size (.tup [.int (i : Nat), x])) h'' s.heap.objs.size (.tup [.int (i : Nat), x]) :=
      ⟨by show 2 ≤ sizeLine; decide, [.int i tk, u2], .cons ⟨_, rfl⟩ (.cons ru .nil), ⟨_, hT2, rfl, _, rfl⟩⟩
    have I1 : Inv X pins σ (upd H s.heap.objs.size (.tup [.int (i : Nat), x])) { s with heap := h'', toks := tk + 1 } :=
      I.turnedNew (ch := [e, it]) (fun b ob hb q => (sb.2 b (fun z => hb (by simp [z]))).trans (hk b ob (fun z => hb (by simp [z])) (fun z => hb (by simp [z])) q)) hf (Nat.le_refl _) new
    refine ⟨.ref s.heap.objs.size, _, I1, rfl, ⟨_, x, rfl, I.hok.fresh (Nat.le_refl _), rfl, fun ys hy => by rw [I.tuple_inj hy hq]; exact hx⟩, ⟨⟨u2, ?_⟩, ?_, hne⟩, fun b hb => ?_⟩
    · have e1 : ((i + 1 : Nat) : Int) = (i : Int) + 1 := by omega
      rw [e1]; exact he'
    · obtain ⟨o, q1, r⟩ := hs2.1
      exact ⟨o, (sb.2 it (Ne.symm hne)).trans q1, r⟩
    · have hb' : b < s.heap.objs.size := by
        simp only [List.mem_cons, List.not_mem_nil, or_false] at hb
        rcases hb with rfl | rfl
        · exact hel
        · exact hil
      rw [upd_ne (Nat.ne_of_lt hb')]
      exact (hf b hb).1
  done := by
    intro X hP hw hK hc i pins s σ H E I hf st hg
    subst hP hw hK
    obtain ⟨⟨old, he⟩, hit, hne⟩ := st
    obtain ⟨xs, hq, hx⟩ := hg
    obtain ⟨its, rv, p, hz⟩ := I.tuple hq
    obtain ⟨f0, f1, f2, f3, f4, f5⟩ := hf it (by simp)
    have hl := rv.length
    exact next_endT (I.ok.hd hc) he hit p (by simp; omega) fun h' eb => ⟨rfl, I.turned (t' := s.toks) (fun b o hb q => eb b o hb q) f0 f1 f3 f4 f5⟩
  self := fun A i s Q E st h => let ⟨⟨_, he⟩, _⟩ := st; wpAny_pyIter_enum he h
def iEnumT (K : PySem.W.Frag) (ta : TA) : TI := fun σ H R => ta σ H fun vs H1 => ∃ a xs, vs = [.ref a] ∧ SqT K H1 a xs ∧ R (Iet K a) H1
theorem pi_enumT {X : Cx} {e : Expr} {ta : TA} {p pos tpos : Pos} {elts : List Expr} {kk : Nat} (hg : Gl X "enumerate") (hm : X.mg "enumerate" = none) (ha : PA X [e] ta) (hs : starEach [e] X.env = [(false, eval e X.env)] := by rfl) :
    PI X (.Tuple elts kk tpos) (.Call (.Name "enumerate" p) [e] [] pos) (iEnumT X.K ta) := by
  refine ⟨fun pins s σ H R I h => ?_⟩
  refine Call_ (ld_blt I hg hm boot_enumerate (PyProof.Rows.callWith_type1 (thn (ha.run pos pins s σ H _ I h) fun us s1 ⟨vs, H1, I1, r1, a, xs, ex, hq, q⟩ => ?_) hs rfl))
  subst ex
  cases r1 with
  | cons r rr =>
    cases rr
    cases r
    obtain ⟨its, rv, p', hz⟩ := I1.tuple hq
    refine call_enumT p' fun h' he hit hk => wpAny_pyIter_enum he ?_
    refine ⟨s1.heap.objs.size + 1, [s1.heap.objs.size + 1, s1.heap.objs.size], _, _, H1, rfl, I1.kept (t' := s1.toks) hk, turn_enumT a (s1.heap.objs.size + 1) s1.heap.objs.size, ⟨⟨.none, he⟩, hit, Nat.succ_ne_self _⟩, fun b hb => ?_, q⟩
    have hle : s1.heap.objs.size ≤ b := by
      simp only [List.mem_cons, List.not_mem_nil, or_false] at hb
      rcases hb with z | z
      · rw [z]; exact Nat.le_add_right _ _
      · rw [z]; exact Nat.le_refl _
    exact I1.fpOk hle (I1.hok.fresh hle)
end DtE
namespace Dt
open PySem PySem.Spec L2 DtE
open PyProof.Rows hiding St
theorem enumD_get {ds : List D} {i : Nat} {d : D} (e : (enumD ds)[i]? = some d) : ∃ x, ds[i]? = some x ∧ d = .tuple [.int (i : Int), x] := by
  unfold enumD at e
  rw [List.getElem?_zipWith] at e
  split at e
  · rename_i j x e1 e2
    cases e
    obtain ⟨h1, h2⟩ := List.getElem?_eq_some_iff.mp e1
    rw [List.getElem_range] at h2
    subst h2
    exact ⟨x, e2, rfl⟩
  · cases e
theorem walk_et {K : Fg} {a : Addr} {xs : List V} {ds : List D} {H : Hp} (h : SqT K H a xs) (r : RepAll K H xs ds) : Walk K (Iet K a) (enumD ds) H := fun i H' k => by
  have h' : SqT K H' a xs := sqT_kp k h
  have r' := r.kp k
  refine ⟨fun d e => ?_, fun hl => ⟨xs, h', ?_⟩⟩
  · obtain ⟨x, e2, rfl⟩ := enumD_get e
    obtain ⟨v, e3, rv⟩ := r'.get e2
    refine ⟨⟨xs, v, h', e3⟩, fun z H2 hy => ?_⟩
    obtain ⟨T, v', rfl, hT, rfl, z1⟩ := hy
    have e5 := z1 xs h'
    rw [e3] at e5
    cases e5
    exact ⟨same_new hT, .tup (.of upd_same) ((RepAll.cons (.int _) (.cons rv .nil)).kp (.same (same_new hT)))⟩
  · unfold enumD at hl
    rw [List.length_zipWith, List.length_range] at hl
    rw [r'.len]
    omega
def lEnumA (f : FL) : FL := fun ss => (f ss).bind fun d s1 => match d with
  | [.list xs] => .ok (enumD xs) s1
  | [.tuple xs] => .ok (enumD xs) s1
  | _ => .no
theorem ienumA {X : Cx} {a : Expr} {fl : FL} {p pos tpos : Pos} {elts : List Expr} {kk : Nat} (hm : X.mg "enumerate" = none) (ha : PA X [a] (tL X.F fl)) (hg : Gl X "enumerate" := by rfl) (hs : starEach [a] X.env = [(false, eval a X.env)] := by rfl) :
    PI X (.Tuple elts kk tpos) (.Call (.Name "enumerate" p) [a] [] pos) (iD X.F (lEnumA fl)) := by
  refine ⟨fun pins s σ H R I q => ?_⟩
  obtain ⟨fx, ss, ds, s2, fr, e, k⟩ := q
  obtain ⟨d, s1, e1, e⟩ := bind_ok e
  split at e
  · cases e
    refine (pi_enum hg hm ha hs).run pins s σ H R I ⟨fx, ss, _, _, fr, e1, fun vs H1 k1 f1 r1 => ?_⟩
    obtain ⟨v, rfl, rv⟩ := r1.one
    obtain ⟨a1, xs, rfl, h1, q1⟩ := rv.lstv
    exact ⟨a1, xs, rfl, h1.sq, k _ _ k1 f1 (walk_e h1 q1)⟩
  · cases e
    refine (pi_enumT hg hm ha hs).run pins s σ H R I ⟨fx, ss, _, _, fr, e1, fun vs H1 k1 f1 r1 => ?_⟩
    obtain ⟨v, rfl, rv⟩ := r1.one
    obtain ⟨a1, xs, rfl, h1, q1⟩ := rv.tupv
    exact ⟨a1, xs, rfl, h1, k _ _ k1 f1 (walk_et h1 q1)⟩
  · cases e
end Dt

/-! Dt25: what is never reached; x in range(a, b); len of a dict of one's own; d.pop(k). -/
namespace Dt
open PySem PySem.Spec L2
open PyProof.Rows hiding St
section
variable {X : Cx} {a b c : Expr} {f g h : FE} {fn : FN} {pos : Pos}
/-- nothing is promised -/
def eNo : FE := fun _ => .no
def nNo : FN := fun _ => .no
def sNo : FS := fun _ => .no
theorem xno {e : Expr} : PE X e (tD X.F eNo) := ⟨fun pins s σ H Q I q => by
  obtain ⟨fx, ss, d, s3, f, e, k⟩ := q
  cases e⟩
theorem xnoN {e : Expr} : PE X e (tN X.F nNo) := ⟨fun pins s σ H Q I q => by
  obtain ⟨fx, ss, d, s3, f, e, k⟩ := q
  cases e⟩
theorem sno {st : Stmt} : PS X st (tS X.F sNo) := ⟨fun pins s σ H E I q => by
  obtain ⟨fx, ss, fr, k⟩ := q
  exact k.elim⟩
/-- x in range(a, b) -/
def eInR (n : Bool) (f g h : FE) : FE := fun ss => (f ss).bind fun x s1 => (g s1).bind fun y s2 => (h s2).bind fun z s3 => match x, y, z with
  | .int i, .int lo, .int hi => .ok (.bool (cond n (!decide (lo ≤ i ∧ i < hi)) (decide (lo ≤ i ∧ i < hi)))) s3
  | _, _, _ => .no
/-- x (not) in a range that is laid -/
def rRg (n : Bool) : R2 := fun x y H Q => ∃ i r lo hi, x = V.int i ∧ y = V.ref r ∧ H r = some (.rng lo hi) ∧ Q (.bl (cond n (!decide (lo ≤ i ∧ i < hi)) (decide (lo ≤ i ∧ i < hi)))) H
def rRg2 : List V → Hp → VK → Prop := fun vs H Q => ∃ lo hi, vs = [V.int lo, V.int hi] ∧ ∀ r, H r = none → Q (.ref r) (upd H r (.rng lo hi))
theorem op_nin : OpR X (compareOp .NotIn) (rRg true) := fun pins s σ H x y v u Q I rx ry ⟨i, r, lo, hi, e1, e2, hr, q⟩ => by
  subst e1 e2
  cases (show u = Value.ref r from ry)
  obtain ⟨k, rfl⟩ := rx
  obtain ⟨t1, t2, t3, ob⟩ := I.hok r _ hr
  have ty : s.TypeIs (.ref r) "range" := ⟨_, ob, rfl⟩
  show wpAny _ _ (do return Value.bool (!(← contains (.ref r) (.int i k)))) _ _ s
  refine wpAny_bind ?_
  refine wpAny_contains_slot ty PySem.F.slot_range_contains ?_
  refine call_meets PySem.F.slot_range_contains ty PySem.F.entry_range_contains (PySem.F.args_range_contains_2 _ _) (q_contains r lo hi i t1 t2 t3 k) ⟨ob, wpAny_truthy_bool (wpAny_pure ?_)⟩
  rw [place1]
  exact ⟨.bl _, H, I, rfl, q⟩
theorem inr_read {n : Bool} {σ : St} {H : Hp} {Q : VK} (q : tD X.F (eInR n f g h) σ H Q) : tOp (rRg n) (tD X.F f) (tCB rRg2 (tCons (tD X.F g) (tCons (tD X.F h) tNil))) σ H Q := by
  obtain ⟨fx, ss, d, s4, fr, e, k⟩ := q
  obtain ⟨x, s1, e1, e⟩ := bind_ok e
  obtain ⟨y, s2, e2, e⟩ := bind_ok e
  obtain ⟨z, s3, e3, e⟩ := bind_ok e
  split at e
  · cases e
    refine ⟨fx, ss, _, s1, fr, e1, fun v H1 k1 f1 r1 => ⟨fx, s1, _, s2, f1, e2, fun w H2 k2 f2 r2 => ⟨fx, s2, _, _, f2, e3, fun u H3 k3 f3 r3 => ?_⟩⟩⟩
    have r1' := r1.intv
    have r2' := r2.intv
    have r3' := r3.intv
    subst r1' r2' r3'
    refine ⟨_, _, rfl, fun p hp => ⟨_, p, _, _, rfl, rfl, upd_same, ?_⟩⟩
    exact k _ _ ((k1.trans (k2.trans k3)).trans (.same (same_new hp))) (f3.new hp) (.bl _)
  · cases e
theorem xinr {p p2 : Pos} (hm : X.mg "range" = none) (ha : PE X a (tD X.F f)) (hb : PE X b (tD X.F g)) (hc : PE X c (tD X.F h)) (hg : Gl X "range" := by rfl) (hv : bootBuiltins "range" = some (.type "range") := by rfl)
    (he : starEach [b, c] X.env = (false, eval b X.env) :: starEach [c] X.env := by rfl) (hpl : (backTo p2 (starEach [c] X.env)).any (·.1) = false := by rfl) (hs : starEach [c] X.env = (false, eval c X.env) :: starEach [] X.env := by rfl) (hb2 : behindInMarks .In (.Call (.Name "range" p) [b, c] [] p2) = false := by rfl) :
    PE X (.Compare a [.In] [.Call (.Name "range" p) [b, c] [] p2] pos) (tD X.F (eInR false f g h)) :=
  (pe_cmpR op_in_rng ha (pe_callTy cr_range2 hg hm hv (pa_cons hb (pa_cons hc pa_nil hs) he) (by decide) (by decide) he hpl) hb2).imp fun σ H Q q => inr_read q
theorem tinr {p p2 : Pos} (hm : X.mg "range" = none) (ha : PE X a (tD X.F f)) (hb : PE X b (tD X.F g)) (hc : PE X c (tD X.F h)) (hg : Gl X "range" := by rfl) (hv : bootBuiltins "range" = some (.type "range") := by rfl)
    (he : starEach [b, c] X.env = (false, eval b X.env) :: starEach [c] X.env := by rfl) (hpl : (backTo p2 (starEach [c] X.env)).any (·.1) = false := by rfl) (hs : starEach [c] X.env = (false, eval c X.env) :: starEach [] X.env := by rfl) (hb2 : behindInMarks .In (.Call (.Name "range" p) [b, c] [] p2) = false := by rfl) :
    PT X (.Compare a [.In] [.Call (.Name "range" p) [b, c] [] p2] pos) (tT X.F (bOf (eInR false f g h))) :=
  tread (pt_cmpR op_in_rng ha (pe_callTy cr_range2 hg hm hv (pa_cons hb (pa_cons hc pa_nil hs) he) (by decide) (by decide) he hpl) hb2) fun σ H Q q => inr_read q
theorem xninr {p p2 : Pos} (hm : X.mg "range" = none) (ha : PE X a (tD X.F f)) (hb : PE X b (tD X.F g)) (hc : PE X c (tD X.F h)) (hg : Gl X "range" := by rfl) (hv : bootBuiltins "range" = some (.type "range") := by rfl)
    (he : starEach [b, c] X.env = (false, eval b X.env) :: starEach [c] X.env := by rfl) (hpl : (backTo p2 (starEach [c] X.env)).any (·.1) = false := by rfl) (hs : starEach [c] X.env = (false, eval c X.env) :: starEach [] X.env := by rfl) (hb2 : behindInMarks .NotIn (.Call (.Name "range" p) [b, c] [] p2) = false := by rfl) :
    PE X (.Compare a [.NotIn] [.Call (.Name "range" p) [b, c] [] p2] pos) (tD X.F (eInR true f g h)) :=
  (pe_cmpR op_nin ha (pe_callTy cr_range2 hg hm hv (pa_cons hb (pa_cons hc pa_nil hs) he) (by decide) (by decide) he hpl) hb2).imp fun σ H Q q => inr_read q
theorem tninr {p p2 : Pos} (hm : X.mg "range" = none) (ha : PE X a (tD X.F f)) (hb : PE X b (tD X.F g)) (hc : PE X c (tD X.F h)) (hg : Gl X "range" := by rfl) (hv : bootBuiltins "range" = some (.type "range") := by rfl)
    (he : starEach [b, c] X.env = (false, eval b X.env) :: starEach [c] X.env := by rfl) (hpl : (backTo p2 (starEach [c] X.env)).any (·.1) = false := by rfl) (hs : starEach [c] X.env = (false, eval c X.env) :: starEach [] X.env := by rfl) (hb2 : behindInMarks .NotIn (.Call (.Name "range" p) [b, c] [] p2) = false := by rfl) :
    PT X (.Compare a [.NotIn] [.Call (.Name "range" p) [b, c] [] p2] pos) (tT X.F (bOf (eInR true f g h))) :=
  tread (pt_cmpR op_nin ha (pe_callTy cr_range2 hg hm hv (pa_cons hb (pa_cons hc pa_nil hs) he) (by decide) (by decide) he hpl) hb2) fun σ H Q q => inr_read q
end
end Dt

/-! Dt26: d.pop(k), len(d) of dicts of one's own. -/
namespace Dt
open PySem PySem.Spec L2
open PyProof.Rows hiding St
theorem drop_rep {K : Fg} {H : Hp} {k : Key} : ∀ {kvs : List (Key × V)} {es : List D}, RepAll K H (kvs.map (·.2)) es → ∃ es', RepAll K H ((dropK kvs k).map (·.2)) es' ∧ ddrop ((kvs.map fun p => keyD p.1).zip es) (keyD k) = ((dropK kvs k).map fun p => keyD p.1).zip es'
  | [], es, h => by cases h; exact ⟨[], .nil, rfl⟩
  | p :: r, es, h => by
    cases h with
    | @cons _ _ d ds h t =>
      obtain ⟨es', h1, h2⟩ := drop_rep (k := k) t
      unfold ddrop dropK at *
      rw [List.map_cons, List.zip_cons_cons, List.filter_cons, List.filter_cons]
      by_cases e : p.1 = k
      · have e2 : kEq (keyD p.1) (keyD k) = true := by rw [kEq_keyD, decide_eq_true e]
        rw [if_neg (show ¬((!kEq (keyD p.1) (keyD k)) = true) by simp [e2]), if_neg (show ¬(decide (p.1 ≠ k) = true) by simp [e])]
        exact ⟨es', h1, h2⟩
      · have e2 : kEq (keyD p.1) (keyD k) = false := by rw [kEq_keyD, decide_eq_false e]
        rw [if_pos (show (!kEq (keyD p.1) (keyD k)) = true by simp [e2]), if_pos (show decide (p.1 ≠ k) = true by simp [e])]
        exact ⟨d :: es', .cons h h1, by rw [h2]; rfl⟩
theorem keyD_of {k : D} (h : kGood false k = true) : ∃ q : Key, k = keyD q := by
  cases k <;> first | exact ⟨.inl _, rfl⟩ | exact ⟨.inr _, rfl⟩ | cases h
theorem repK_key {K : Fg} {H : Hp} {v : V} {q : Key} (h : Rep K H v (keyD q)) : v = kV q := by
  cases q with
  | inl i => exact h.intv
  | inr x => exact h.strv
section
variable {X : Cx} {f : FE}
def sPopD (i : Nat) (f : FE) : FS := fun ss => match objAt ss i with
  | some (.dct _) => match f ss with
    | .ok k s1 => match s1[i]? with
      | some s => match s.obj with
        | some (.dct kvs) => if kGood false k = true ∧ (look kvs k).isSome = true then .nx (s1.set i (s.put (.dct (ddrop kvs k)))) else .no
        | _ => .no
      | none => .no
    | .no => .no
  | _ => .no
theorem spopD (i : Nat) {st : Stmt} (h : PS X st (tDrop (tDPop1 (tVar i) (tD X.F f)))) : PS X st (tS X.F (sPopD i f)) := by
  refine h.imp fun E σ H q => ?_
  obtain ⟨fx, ss, fr, k⟩ := tS_iff.mp q
  unfold sPopD at k
  split at k
  rotate_left
  · exact k.elim
  rename_i ds0 ho
  obtain ⟨s0, e0, eo⟩ := objAt_some ho
  obtain ⟨q, h1, ⟨kvs0, es0, h2, _⟩, _⟩ := (fr.slot i s0 e0).obj eo
  split at k
  rotate_left
  · exact k.elim
  rename_i kd s1 e1
  split at k
  rotate_left
  · exact k.elim
  rename_i s es_
  split at k
  rotate_left
  · exact k.elim
  rename_i ds eo2
  split at k
  rotate_left
  · exact k.elim
  rename_i hl
  refine ⟨_, h1, q, rfl, .inl ⟨kvs0, .inl h2⟩, fx, ss, kd, s1, fr, e1, fun v H1 k1 f1 r1 => ?_⟩
  obtain ⟨q2, z1, ⟨kvs, es, z2, z3, z4⟩, _⟩ := (f1.slot i s es_).obj eo2
  rw [h1] at z1
  cases z1
  obtain ⟨qk, rfl⟩ := keyD_of hl.1
  have hv := hl.2
  rw [z4, look_isSome z3] at hv
  obtain ⟨v0, hv⟩ := Option.isSome_iff_exists.mp hv
  obtain ⟨es', g1, g2⟩ := drop_rep (k := qk) z3
  obtain ⟨f2, k2⟩ := f1.mut (o' := .dct (ddrop ds (keyD qk))) (u := .dK (dropK kvs qk)) es_ eo2 h1 fun kk => ⟨_, es', upd_same, g1.kp kk, by rw [z4]; exact g2⟩
  exact ⟨kvs, qk, v0, z2, repK_key r1, hv, k _ _ (k1.trans k2) f2⟩
/-- len(d) -/
def rLenD (K : Fg) : List V → Hp → VK → Prop := fun vs H Q => ∃ a n kvs, vs = [.ref a] ∧ DAt K H a n kvs ∧ Q (.int kvs.length) H
theorem cLenD : CallR X (.builtin "len") (rLenD X.F) := by
  intro pins s σ H vs us Q I r ⟨a, n, kvs, e, g, k⟩
  subst e
  rw [Vals.ref1 r]
  exact da_len I g fun t s' I' => ⟨.int _, H, I', ⟨t, rfl⟩, k⟩
def eOlenD (i : Nat) : FE := fun ss => match (objAt ss i).bind kvO with
  | some (_, kvs) => .ok (.int kvs.length) ss
  | none => .no
theorem xolenD (i : Nat) {e : Expr} (h : PE X e (tCB (rLenD X.F) (tCons (tVar i) tNil))) : PE X e (tD X.F (eOlenD i)) := by
  refine h.imp fun σ H Q q => ?_
  obtain ⟨fx, ss, d, s3, fr, e, k⟩ := q
  unfold eOlenD at e
  split at e
  rotate_left
  · cases e
  rename_i n kvs hob
  cases e
  obtain ⟨o1, hob1, hob2⟩ := Option.bind_eq_some_iff.mp hob
  have := kvO_some hob2
  subst this
  obtain ⟨s0, e0, eo⟩ := objAt_some hob1
  obtain ⟨p, h1, h2, _⟩ := (fr.slot i s0 e0).obj eo
  exact ⟨_, h1, p, n, kvs, rfl, h2.dat, k _ H (Kp.refl H) fr (.int _)⟩
end
end Dt

/-! Dt27: dict(x) of pairs; {k: v, ..}. -/
namespace Dt
open PySem PySem.Spec L2
open PyProof.Rows hiding St
def pairOf : D → Option (D × D)
  | .tuple [k, v] => some (k, v)
  | _ => none
/-- pairs put one behind the other -/
def dputs (acc kvs : List (D × D)) : List (D × D) := kvs.foldl (fun a p => dput a p.1 p.2) acc
def keysOk (kvs : List (D × D)) : Bool := kvs.all fun p => kGood false p.1
theorem merge_rep {K : Fg} {H : Hp} : ∀ {ws : List (Key × V)} {fs : List D} {acc : List (Key × V)} {es : List D}, RepAll K H (ws.map (·.2)) fs → RepAll K H (acc.map (·.2)) es →
    ∃ gs, RepAll K H ((mergeK acc ws).map (·.2)) gs ∧ dputs ((acc.map fun p => keyD p.1).zip es) ((ws.map fun p => keyD p.1).zip fs) = ((mergeK acc ws).map fun p => keyD p.1).zip gs
  | [], fs, acc, es, h, g => by cases h; exact ⟨es, g, rfl⟩
  | p :: ws, fs, acc, es, h, g => by
    cases h with
    | @cons _ _ d fs h t =>
      obtain ⟨e1, g1, g2⟩ := put_k (k := p.1) h g
      obtain ⟨gs, h1, h2⟩ := merge_rep t g1
      refine ⟨gs, h1, ?_⟩
      unfold dputs at h2 ⊢
      rw [List.map_cons, List.zip_cons_cons, List.foldl_cons, g2]
      exact h2
theorem pairs_in {K : Fg} {H : Hp} : ∀ {vs : List V} {ds : List D} {kvs : List (D × D)}, RepAll K H vs ds → ds.mapM pairOf = some kvs → keysOk kvs = true →
    ∃ (ps : List Addr) (ws : List (Key × V)) (fs : List D), vs = ps.map V.ref ∧ Paired (fun p kv => SqT K H p [kV kv.1, kv.2]) ps ws ∧ RepAll K H (ws.map (·.2)) fs ∧ kvs = (ws.map fun p => keyD p.1).zip fs
  | _, [], kvs, .nil, e, _ => by cases e; exact ⟨[], [], [], rfl, .nil, .nil, rfl⟩
  | _, d :: ds, kvs, .cons h t, e, g => by
    rw [List.mapM_cons] at e
    obtain ⟨⟨k, x⟩, e1, e⟩ := Option.bind_eq_some_iff.mp e
    obtain ⟨kvs', e2, e⟩ := Option.bind_eq_some_iff.mp e
    cases e
    unfold keysOk at g
    rw [List.all_cons, Bool.and_eq_true] at g
    obtain ⟨ps, ws, fs, rfl, p1, p2, p3⟩ := pairs_in t e2 g.2
    unfold pairOf at e1
    split at e1
    · cases e1
      obtain ⟨a, xs, rfl, s1, s2⟩ := h.tupv
      obtain ⟨v, w, rfl, r1, r2⟩ := s2.two
      obtain ⟨q, rfl⟩ := keyD_of g.1
      have := repK_key r1
      subst this
      exact ⟨a :: ps, (q, w) :: ws, _ :: fs, rfl, .cons s1 p1, .cons r2 p2, by rw [p3]; rfl⟩
    · cases e1
/-- dict(d), a copy -/
def gDict : List D → Option O
  | [d] => match kvsOf d with
    | some (false, kvs) => some (.dct kvs)
    | _ => none
  | _ => none
section
variable {X : Cx}
theorem cDictN : CallR X (.type "dict") (cDN X.F gDict) := by
  intro pins s σ H vs us Q I r ⟨ds, z, hd, hz, k⟩
  unfold gDict at hz
  split at hz
  rotate_left
  · cases hz
  split at hz
  rotate_left
  · cases hz
  rename_i d kvs e
  cases hz
  obtain ⟨v, rfl, rv⟩ := hd.one
  obtain ⟨a, rfl, g⟩ := rv.dat e
  generalize hb : false = b at g
  cases g with
  | n => cases hb
  | k hr rr =>
    exact call_dictD pins s σ H _ us Q I r ⟨a, _, rfl, hr, fun p hp => k p _ hp (same_new hp) ⟨_, _, upd_same, rr.kp (.same (same_new hp)), rfl⟩⟩
/-! {k: v, ..} -/
def pairsF : List (FE × FE) → SS → Option (List (D × D) × SS)
  | [], ss => some ([], ss)
  | (fk, fv) :: r, ss => match fk ss with
    | .no => none
    | .ok k s1 => match fv s1 with
      | .no => none
      | .ok v s2 => match pairsF r s2 with
        | none => none
        | some (l, s3) => some ((k, v) :: l, s3)
def nDsp (ps : List (FE × FE)) : FN := fun ss => match pairsF ps (lend ss) with
  | some (kvs, s2) => if kvs.length ≤ 15 ∧ keysOk kvs = true then .ok (.dct (dputs [] kvs)) (unlend ss s2) else .no
  | none => .no
/-- pairs of values that stand for pairs of data -/
def RepPs (K : Fg) (H : Hp) (ps : List (V × V)) (kvs : List (D × D)) : Prop := RepAll K H (ps.map (·.1)) (kvs.map (·.1)) ∧ RepAll K H (ps.map (·.2)) (kvs.map (·.2))
theorem pairs_read {K : Fg} {fx : Fx} {σ : St} : ∀ {ps : List (FE × FE)} {s1 s2 : SS} {H1 : Hp} {kvs : List (D × D)} {R : List (V × V) → Hp → Prop}, FR K fx s1 σ H1 → pairsF ps s1 = some (kvs, s2) →
    (∀ vs H2, Kp H1 H2 → FR K fx s2 σ H2 → RepPs K H2 vs kvs → R vs H2) → tPairs (ps.map fun p => (tD K p.1, tD K p.2)) σ H1 R
  | [], s1, s2, H1, kvs, R, f, e, k => by
    cases e
    exact k [] H1 (Kp.refl H1) f ⟨.nil, .nil⟩
  | (fk, fv) :: r, s1, s2, H1, kvs, R, f, e, k => by
    unfold pairsF at e
    cases e1 : fk s1 with
    | no => rw [e1] at e; cases e
    | ok kd t1 =>
      rw [e1] at e
      simp only at e
      cases e2 : fv t1 with
      | no => rw [e2] at e; cases e
      | ok vd t2 =>
        rw [e2] at e
        simp only at e
        cases e3 : pairsF r t2 with
        | none => rw [e3] at e; cases e
        | some q =>
          rw [e3] at e
          obtain ⟨l, t3⟩ := q
          cases e
          exact ⟨fx, s1, kd, t1, f, e1, fun v H2 k2 f2 r2 => ⟨fx, t1, vd, t2, f2, e2, fun w H3 k3 f3 r3 => pairs_read f3 e3 fun vs H4 k4 f4 ⟨a4, b4⟩ =>
            k _ H4 (k2.trans (k3.trans k4)) f4 ⟨.cons ((r2.kp k3).kp k4) a4, .cons (r3.kp k4) b4⟩⟩⟩
theorem pairs_keys {K : Fg} {H : Hp} : ∀ {ps : List (V × V)} {kvs : List (D × D)}, RepPs K H ps kvs → keysOk kvs = true → ∃ (ws : List (Key × V)) (fs : List D), ps = ws.map (fun kv => (kV kv.1, kv.2)) ∧ RepAll K H (ws.map (·.2)) fs ∧ kvs = (ws.map fun p => keyD p.1).zip fs ∧ ws.length = kvs.length
  | [], [], _, _ => ⟨[], [], rfl, .nil, rfl, rfl⟩
  | p :: ps, [], h, _ => by cases h.1
  | [], q :: kvs, h, _ => by cases h.1
  | p :: ps, q :: kvs, h, g => by
    obtain ⟨h1, h2⟩ := h
    cases h1 with
    | cons a1 t1 =>
      cases h2 with
      | cons a2 t2 =>
        unfold keysOk at g
        rw [List.all_cons, Bool.and_eq_true] at g
        obtain ⟨ws, fs, e1, e2, e3, e4⟩ := pairs_keys ⟨t1, t2⟩ g.2
        obtain ⟨kq, hk⟩ := keyD_of g.1
        have a1' : Rep K H p.1 q.1 := a1
        rw [hk] at a1'
        have := repK_key a1'
        refine ⟨(kq, p.2) :: ws, q.2 :: fs, ?_, .cons a2 e2, ?_, by simp [e4]⟩
        · rw [e1, List.map_cons, ← this]
        · rw [List.map_cons, List.zip_cons_cons, ← hk, ← e3]
theorem dsp_read {ps : List (FE × FE)} {σ : St} {H : Hp} {Q : VK} (q : tN X.F (nDsp ps) σ H Q) : tDisp (ps.map fun p => (tD X.F p.1, tD X.F p.2)) σ H Q := by
  obtain ⟨fx, ss, o, s3, fr, e, k⟩ := q
  unfold nDsp at e
  split at e
  rotate_left
  · cases e
  rename_i kvs s2 e1
  split at e
  rotate_left
  · cases e
  rename_i hc
  cases e
  intro p hp
  have f1 : FR X.F fx ss σ (upd H p (.dK [])) := fr.new hp
  have nw := fr.newAt hp
  refine pairs_read f1.lend e1 fun vs H2 k2 f2 rp => ?_
  have stay : H2 p = some (.dK []) := f2.rest p _ upd_same fun j z => by
    obtain ⟨s', o', a, b, c⟩ := fxr_some z
    exact nw.2 j s' o' a b c
  obtain ⟨ws, fs, e2, e3, e4, e5⟩ := pairs_keys rp hc.2
  obtain ⟨gs, g1, g2⟩ := merge_rep (K := X.F) (H := H2) (acc := []) (es := []) e3 .nil
  have f3 := f1.unlend f2 k2
  have kk : Kp H2 (upd H2 p (.dK (mergeK [] ws))) := Kp.upd stay loose_dK
  refine ⟨stay, ws, e2, by rw [e5]; exact hc.1, k p _ (((Kp.same (same_new hp)).trans k2).trans kk) (f3.lock ⟨nw.1, fun j s o a b => ?_⟩ stay loose_dK) ⟨mergeK [] ws, gs, upd_same, g1.kp kk, ?_⟩ ⟨nw.1, fun j s o a b => ?_⟩⟩
  · obtain ⟨t', u, c, d⟩ := unlend_old a b
    exact nw.2 j t' u c d
  · rw [e4]
    exact g2
  · obtain ⟨t', u, c, d⟩ := unlend_old a b
    exact nw.2 j t' u c d
theorem xdsp {pos : Pos} {keys : List (Option Expr)} {values : List Expr} {ps : List (FE × FE)} (h : PPs X pos keys values (ps.map fun p => (tD X.F p.1, tD X.F p.2))) (hall : keys.all (·.isSome) = true := by rfl) (hl : keys.length = values.length := by rfl) (h0 : keys ≠ [] := by intro z; cases z)
    (h15 : keys.length ≤ 15 := by decide) : PE X (.Dict keys values pos) (tN X.F (nDsp ps)) :=
  (pe_disp h hall hl h0 h15).imp fun σ H Q q => dsp_read q
theorem pn {pos : Pos} : PPs X pos [] [] (([] : List (FE × FE)).map fun p => (tD X.F p.1, tD X.F p.2)) := pps_nil
theorem pc {pos : Pos} {k v : Expr} {ks : List (Option Expr)} {vs : List Expr} {fk fv : FE} {ps : List (FE × FE)} (hk : PE X k (tD X.F fk)) (hv : PE X v (tD X.F fv)) (hr : PPs X pos ks vs (ps.map fun p => (tD X.F p.1, tD X.F p.2))) :
    PPs X pos (some k :: ks) (v :: vs) (((fk, fv) :: ps).map fun p => (tD X.F p.1, tD X.F p.2)) := pps_cons hk hv hr
end
end Dt

/-! Dt28: a dict of the module's own, texts to ints: d.get(x, e), d[x], x in d. -/
namespace Dt
open PySem PySem.Spec L2
open PyProof.Rows hiding St
abbrev Tab := List (Str × Int)
def tabLook (t : Tab) (x : Str) : Option Int := (t.find? fun p => decide (p.1 = x)).map (·.2)
inductive Ents (P : Params) : List DictEntry → Tab → Prop
  | nil : Ents P [] []
  | cons {h : Int} {x : Str} {i : Int} {t u : Tok} {r : List DictEntry} {q : Tab} : h = PyData.keyHash P x → Ents P r q → Ents P (⟨h, .str x t, .int i u⟩ :: r) ((x, i) :: q)
theorem Ents.lit {P : Params} {es : List DictEntry} {q : Tab} (h : Ents P es q) : PySem.W.KeysLit P es := by
  induction h with
  | nil => trivial
  | cons h _ ih => exact ⟨⟨_, _, rfl, h⟩, ih⟩
theorem Ents.find {P : Params} {es : List DictEntry} {q : Tab} (h : Ents P es q) (x : Str) : match tabLook q x with
    | some i => ∃ t, (es.find? fun e => Value.isStrOf x e.key).map (·.val) = some (.int i t)
    | none => (es.find? fun e => Value.isStrOf x e.key).map (·.val) = none := by
  induction h with
  | nil => rfl
  | @cons h y i t u r q e _ ih =>
    unfold tabLook at ih ⊢
    rw [List.find?_cons, List.find?_cons]
    have he : Value.isStrOf x (.str y t) = decide (y = x) := by
      by_cases c : y = x
      · subst c; simp [Value.isStrOf]
      · simp [Value.isStrOf, c, Ne.symm c]
    simp only [he]
    by_cases c : y = x
    · rw [decide_eq_true c]
      exact ⟨u, rfl⟩
    · rw [decide_eq_false c]
      exact ih
/-- the module's name x holds the dict t -/
def GlT (K : Fg) (mg : Str → Option Value) (x : Str) (t : Tab) : Prop := ∃ a es n, mg x = some (.ref a) ∧ K.k.lookup a = some ⟨.type "dict", none, .dict es n, #[]⟩ ∧ (a == sysModules) = false ∧ Ents K.w.params es.toList t
section
variable {X : Cx} {b c : Expr} {g h : FE} {pos : Pos}
def eTget (t : Tab) (g h : FE) : FE := fun ss => (g ss).bind fun k s1 => (h s1).bind fun e s2 => match k with
  | .str x => .ok (((tabLook t x).map .int).getD e) s2
  | _ => .no
theorem xtget {x : Str} {t : Tab} {px apos cpos : Pos} (m : GlT X.F X.mg x t) (he : PE X b (tD X.F g)) (hf : PE X c (tD X.F h)) (hg : Gl X x := by rfl) (hdb : (x == ("__debug__" : Str)) = false := by decide) (hbase : attributeBase (.Name x px) "get" X.env (eval (.Name x px) X.env) = eval (.Name x px) X.env := by rfl)
    (hfew : ((backTo cpos (starEach [b, c] X.env)).all (fun x => !x.1) && (backToKw cpos (keywordEach [] X.env)).all (fun x => x.1.isSome) && decide (([b, c] : List Expr).length + ([] : List Keyword).length + (if ([] : List Keyword).isEmpty then 0 else 1) < 30)) = true := by rfl)
    (hline : (apos.endLine == cpos.line) = true := by rfl) (htr : backTo cpos (starEach [b, c] X.env) = [(false, eval b X.env), (false, eval c X.env)] := by rfl) :
    PE X (.Call (.Attribute (.Name x px) "get" apos) [b, c] [] cpos) (tD X.F (eTget t g h)) := by
  refine ⟨fun pins s σ H Q I q => ?_⟩
  obtain ⟨a, es, n, hm, hl, low, en⟩ := m
  obtain ⟨fx, ss, z, s9, fr, e, kk⟩ := q
  obtain ⟨k, s2, e2, e⟩ := bind_ok e
  obtain ⟨y, s3, e3, e⟩ := bind_ok e
  split at e
  rotate_left
  · cases e
  rename_i kx _
  cases e
  have hP : PE X (.Name x px) (tC (V.ref a)) := pe_glob hg hm rfl hdb
  refine wpAny_Call_method hbase hfew hline PySem.F.plainAttrs_dict PySem.F.slot_dict_get PySem.F.type_dict_get (thn (hP.run pins s σ H (fun v H1 => v = .ref a ∧ H1 = H) I ⟨rfl, rfl⟩) fun u t1 ⟨v, H1, I1, rv, ev, eH⟩ => ?_)
  subst ev eH
  obtain rfl : u = Value.ref a := rv
  have mp : ∀ {s' : Shared}, X.K.In s'.heap → s'.heap.MapOf (strKind X.prog X.w) a (fun k => findBy Value.isStrOf es k) := fun kin => PySem.W.mapOf_K kin hl en.lit
  refine ⟨(mp I1.kIn).typeIs, fun q eq => ?_, ?_⟩
  · cases eq
    exact ⟨_, I1.kIn _ _ hl, rfl⟩
  rw [htr]
  refine Calls.callWith_builtin rfl (Calls.evalArgs_plain (Calls.spliced_cons (thn (he.run pins t1 σ H1 (fun v H2 => Kp H1 H2 ∧ FR X.F fx s2 σ H2 ∧ Rep X.F H2 v (.str kx)) I1 ⟨fx, ss, .str kx, s2, fr, e2, fun v H2 k2 f2 r2 => ⟨k2, f2, r2⟩⟩) fun iv t2 ⟨w, H2, I2, rw_, k2, f2, r2⟩ =>
    Calls.spliced_cons (thn (hf.run pins t2 σ H2 (fun v H3 => Kp H2 H3 ∧ FR X.F fx s9 σ H3 ∧ Rep X.F H3 v y) I2 ⟨fx, s2, y, s9, f2, e3, fun v H3 k3 f3 r3 => ⟨k3, f3, r3⟩⟩) fun jv t3 ⟨v3, H3, I3, rx, k3, f3, r3⟩ => Calls.spliced_nil ?_))))
  have := r2.strv
  subst this
  obtain ⟨tk, rfl⟩ := rw_
  refine call_meetsIn PySem.F.slot_dict_get (mp I3.kIn).typeIs PySem.F.entry_dict_get (PySem.F.args_dict_get_3 _ _ _) (meets_dict_get_default (strKind X.prog X.w) a (strKind_is X.prog X.w kx tk) low jv) ⟨_, mp I3.kIn, ?_⟩
  have hf := en.find kx
  have hfb : findBy Value.isStrOf es kx = (es.toList.find? fun e => Value.isStrOf kx e.key).map (·.val) := by
    unfold findBy
    rw [Array.find?_toList]
  cases q : tabLook t kx with
  | some i =>
    rw [q] at hf
    obtain ⟨t', hf⟩ := hf
    refine ⟨.int i, H3, I3.tok _, ?_, kk _ _ (k2.trans k3) f3 (by rw [q]; exact .int i)⟩
    rw [hfb, hf]
    exact ⟨t', rfl⟩
  | none =>
    rw [q] at hf
    refine ⟨v3, H3, I3.tok _, ?_, kk _ _ (k2.trans k3) f3 (by rw [q]; exact r3)⟩
    rw [hfb, hf]
    exact rx
end
theorem glt_mk {kk : PySem.W.Frag} {w : World} {h : Heap} {mg : Str → Option Value} {x : Str} {a : Addr} {es : List DictEntry} {n : Nat} {t : Tab} (X : kk.In h) (G : h.Ns mainGlobals mg) (z : PySem.W.nsIn kk mainGlobals x = some (some (.ref a))) (l : kk.lookup a = some ⟨.type "dict", none, .dict es.toArray n, #[]⟩) (low : (a == sysModules) = false) (e : Ents w.params es t) : GlT ⟨kk, w⟩ mg x t :=
  ⟨a, _, n, PySem.W.mg_of X G z, l, low, e⟩
end Dt

/-! Dt29: calls of defs without parameters. -/
namespace Dt
open PySem PySem.Spec L2
open PyProof.Rows hiding St
section
variable {X : Cx} {pos p : Pos} {x : Str} {k : Nat} {F : FnS}
/-- f() -/
def eCall0 (F : FnS) : FE := fun ss => match F [] with
  | some (.imm d, []) => .ok d ss
  | _ => .no
def nCall0 (F : FnS) : FN := fun ss => match F [] with
  | some (.own o, []) => .ok o ss
  | _ => .no
theorem args0 {K : Fg} {σ : St} {H : Hp} : ArgsR K H σ [] [] := .nil
theorem callAt0 {F : FnS} {r : Sl} {ss : SS} (h : F [] = some (r, [])) : callAt F [] ss = some (r, ss) := by
  unfold callAt
  simp [refs, resolve, h, putB]
theorem xc0 (G : Ok X.prog X.F X.mg X.base k x [] F) (hr : Room k X.A) (hg : Gl X x := by rfl) (hdb : (x == ("__debug__" : Str)) = false := by decide) : PE X (.Call (.Name x p) [] [] pos) (tD X.F (eCall0 F)) := by
  obtain ⟨f, fd, G, m, kp, bi⟩ := G
  refine (pe_call0 (E := fun _ _ _ => False) G hr hg m kp bi .nil pass0 hdb).imp fun σ H Q q => ?_
  obtain ⟨fx, ss, d, s3, fr, e, k⟩ := q
  unfold eCall0 at e
  split at e
  · rename_i d2 ec
    cases e
    exact call_read (E := fun _ _ _ => False) rfl (callAt0 ec) fr args0 fun v H' k2 f2 r2 => k v H' k2 f2 r2
  · cases e
theorem xcn0 (G : Ok X.prog X.F X.mg X.base k x [] F) (hr : Room k X.A) (hg : Gl X x := by rfl) (hdb : (x == ("__debug__" : Str)) = false := by decide) : PE X (.Call (.Name x p) [] [] pos) (tN X.F (nCall0 F)) := by
  obtain ⟨f, fd, G, m, kp, bi⟩ := G
  refine (pe_call0 (E := fun _ _ _ => False) G hr hg m kp bi .nil pass0 hdb).imp fun σ H Q q => ?_
  obtain ⟨fx, ss, d, s3, fr, e, k⟩ := q
  unfold nCall0 at e
  split at e
  · rename_i d2 ec
    cases e
    refine call_read (E := fun _ _ _ => False) rfl (callAt0 ec) fr args0 fun v H' k2 f2 r2 => ?_
    obtain ⟨q, rfl, r3, n3⟩ := r2
    exact k q H' k2 f2 r3 n3
  · cases e
end
end Dt

/-! Dt30: s.startswith(x). -/
namespace Dt
open PySem PySem.Spec L2
open PyProof.Rows hiding St
section
variable {X : Cx} {a b : Expr} {fa fb : FE} {pos : Pos}
def gStarts (x : Str) (d : D) : Option D := match d with
  | .str y => some (.bool (Txt.startswith x y))
  | _ => none
theorem mStarts {apos : Pos} (ho : PE X a (tD X.F fa)) (he : PE X b (tD X.F fb)) (hs : starEach [b] X.env = [(false, eval b X.env)] := by rfl) (hbase : attributeBase a "startswith" X.env (eval a X.env) = eval a X.env := by rfl) (hline : (apos.endLine == pos.line) = true := by rfl) :
    PE X (.Call (.Attribute a "startswith" apos) [b] [] pos) (tD X.F (eM1 gStarts fa fb)) := by
  refine m1_read (pe_m1 F.slot_str_startswith F.type_str_startswith mt_startswith ho he hs hbase hline) fun H x v d z Q rv hz k => ?_
  unfold gStarts at hz
  split at hz
  · cases hz
    obtain rfl := rv.strv
    exact ⟨x, _, rfl, rfl, k _ _ (Same.refl H) (.bl _)⟩
  · cases hz
end
end Dt

/-! Dt31: str of a tuple; a law that is called with no repr under way -/
namespace Dt
open PySem PySem.Spec L2
open PyProof.Rows hiding St
section
variable {X : Cx}
def gStrT : List D → Option D
  | [.tuple ds] => if ((PyData.plain (.tuple ds) = true ∧ PyData.showable (.tuple ds) = true) ∧ PyData.hasDict (.tuple ds) = false) ∧ (PyData.shown (.tuple ds)).length ≤ sizeLine ∧ PyData.depth (.tuple ds) ≤ 60 then some (.str (PyData.shown (.tuple ds))) else none
  | ds => gStr ds
theorem cStrT (hg : X.A.guards = some []) (hu : X.A.units + 128 < cLine) : CallR X (.type "str") (cD X.F gStrT) := by
  intro pins s σ H vs us Q I r ⟨ds, z, hd, hz, k⟩
  unfold gStrT at hz
  split at hz
  · rename_i xs
    split at hz
    · rename_i c
      cases hz
      obtain ⟨⟨⟨c1, c2⟩, c3⟩, c4, c5⟩ := c
      obtain ⟨v, rfl, rv⟩ := hd.one
      obtain ⟨u, rfl, r1⟩ := vals1 r
      obtain ⟨as, rd⟩ := rv.reads I c1 r1
      cases rv with
      | tup hT hA =>
        cases r1
        exact str_of_reads rd c2 (fun h => by rw [c3] at h; cases h) hg (by omega) (fun _ _ e => e) (fun h' u tk hk => ⟨.str _, H, I.kept hk, ⟨_, rfl⟩, k _ _ (Same.refl H) (.str _)⟩) c4
    · cases hz
  · exact cStr pins s σ H vs us Q I r ⟨ds, z, hd, hz, k⟩
end
theorem room_u {k : Nat} {A : Around} (r : Room k A) : A.units + 128 < cLine := by have := r.un; omega
/-- the promise of a def that is called while no repr is under way -/
structure FnG (P : Program) (w : World) (K : PySem.W.Frag) (mg : Str → Option Value) (base : Heap) (k : Nat) (f : Addr) (fd : FuncData) (ps : List Str) (sp : Sp) : Prop where
  go : ∀ (B : Around) (out : List Env) (t : Shared) (H : Hp) (as : Args) (us : List Value) (vs : List V) (Q : VK) (E : XK), B.guards = some [] → Room k B → Env0 P w K mg base B out t H → BindsTo t fd as (ps.zip us) → Vals vs us → sp vs H Q E →
    codeAny (model P w) B (.call (.ref f) as) (CR CX0 out P w H t Q E) t
theorem FnG.imp {P : Program} {w : World} {K : PySem.W.Frag} {mg : Str → Option Value} {base : Heap} {k : Nat} {f : Addr} {fd : FuncData} {ps : List Str} {sp sp' : Sp} (F : FnG P w K mg base k f fd ps sp) (h : ∀ vs H Q E, sp' vs H Q E → sp vs H Q E) : FnG P w K mg base k f fd ps sp' :=
  ⟨fun B out t H as us vs Q E g r e b v q => F.go B out t H as us vs Q E g r e b v (h _ _ _ _ q)⟩
/-- from the plain reading to the body's own -/
theorem body_in {K : Fg} {N ps : List Str} {b : FS} {vs : List V} {H : Hp} {Q : VK} {E : XK} (hpl : ps.length ≤ N.length) (h : spOf K (callF N.length b) ps.length vs H Q E) : tS K b { nx := fun _ H' => Q .non H', rt := Q } (start N vs) H := by
  obtain ⟨hl, args, r, args', ok, e, q⟩ := h
  refine tS_iff.mpr ⟨fxOf H args vs, _, fr_start (N := N) ok (by omega), ?_⟩
  have fin : ∀ (ss : SS) (v : V) (σ' : St) (H' : Hp), Kp H H' → FR K (fxOf H args vs) ss σ' H' → RetR K (fxOf H args vs) ss σ' H' v r → args' = ss.take args.length → Q v H' := fun ss v σ' H' k1 f1 rr ea => by
    refine q v H' ⟨k1, fun a o ea hn => f1.rest a o ea fun i z => ?_, f1.there, fun i o u p h1 h2 h3 => ?_, ?_⟩
    · obtain ⟨o', z1, z2⟩ := fx_some z
      exact hn i o' z1 z2
    · subst ea
      rw [List.getElem?_take] at h2
      split at h2
      · obtain ⟨p', _, ow, hP⟩ := f1.slot i _ h2
        rw [fx_of h1 h3] at hP
        cases hP
        exact ow
      · cases h2
    · cases r with
      | imm d => exact rr
      | own o => obtain ⟨p, e1, e2, e3⟩ := rr; exact ⟨p, e1, e3.1, e2⟩
      | un => exact rr.elim
      | bor o => exact rr.elim
  unfold callF at e
  cases eb : b (args ++ List.replicate (N.length - args.length) .un) with
  | no => rw [eb] at e; cases e
  | bk ss => rw [eb] at e; cases e
  | ct ss => rw [eb] at e; cases e
  | rt r' ss =>
    rw [eb] at e
    cases e
    exact fun v σ' H' k1 f1 rr => fin ss v σ' H' k1 f1 rr rfl
  | nx ss =>
    rw [eb] at e
    cases e
    exact fun σ' H' k1 f1 => fin ss .non σ' H' k1 f1 .non rfl
theorem fn_okG {P : Program} {w : World} {K : Fg} {mg : Str → Option Value} {base : Heap} {x qual : Str} {st : Stmt} {f : Addr} {fd : FuncData} {N ps : List Str} {k : Nat} {b : FS} (F : Fun K x qual st f fd) (S : FnScope N ps (defScope st))
    (body : ∀ (cd : Value) (B : Around) (out : List Env) (t : Shared) (H : Hp) (E : XK), (B.deeper (envOfC qual (defScope st) t.heap.objs.size f cd)).guards = some [] → Room k (B.deeper (envOfC qual (defScope st) t.heap.objs.size f cd)) →
      PSs (cxOf CX0 P w K mg base N qual (defScope st) f cd B out t H E).nox (defBody st) (tS K b)) :
    FnG P w K mg base (k + 1) f fd ps (spOf K (callF N.length b) ps.length) := by
  have hpl : ps.length ≤ N.length := by have := congrArg List.length S.pre; rw [List.length_take] at this; omega
  obtain ⟨c1, c2, c3, c4, c5, c6, cd, c7, c8, rfl, look, isc⟩ := F.ex
  refine ⟨fun B out t H as us vs Q E hG hR e0 hb rv hsp => ?_⟩
  have inS : K.k.In t.heap := e0.mod.kin.keeps fun b o q => (e0.bs b o q).1
  have noL : t.heap.NoLimit := e0.mod.nolimit.keeps fun b o q => (e0.bs b o q).1
  refine codeAny_call_function hR.depth (inS _ _ look) rfl S.co S.gen rfl (PySem.W.codeRec_of inS isc) (hb _ _ _ _ (wpAny_newFunctionEnv_cells S.kind (fun y hy => ?_) fun en he t1 z => ?_))
  · exact (S.par y.1 (List.of_mem_zip (show (y.1, y.2) ∈ _ from hy)).1).imp id fun q => ⟨q, PySem.W.cellsFrom_some _ _ _ (.inl q)⟩
  subst he
  refine ⟨noL.keeps z.toInCall.keep, codeAny_func (wpAny_mono ((body cd B out t H E hG (hR.deeper _)).nox.run [] t1 (start N vs) H _ (inv_start S hR.hd e0 hsp.1 rv z) (body_in hpl hsp)) (fun fl t2 h => ?_) fun _ _ h => h)⟩
  cases fl with
  | ret u => obtain ⟨v2, s2, H2, J, r2, q2⟩ := h; exact ⟨v2, H2, J.os, J.bare, J.base, J.hok, r2, q2⟩
  | next => obtain ⟨s2, H2, J, q2⟩ := h; exact ⟨.non, H2, J.os, J.bare, J.base, J.hok, rfl, q2⟩
  | brk => exact (h.elim fun _ h => h.elim fun _ h => h.2).elim
  | cont => exact (h.elim fun _ h => h.elim fun _ h => h.2).elim
section
variable {P : Program} {w : World} {K : PySem.W.Frag} {mg mb : Str → Option Value} {k : Nat} {fa a : Addr} {fd : FuncData} {x : Str} {sp : Sp} {t : Shared} {vs : List Value} {ns : List Int}
theorem core_G {H : Hp} (KX : K.In t.heap) (gl : t.heap.Ns mainGlobals mg) (bu : t.heap.Ns builtinsNs mb) (boot : ∀ x : Str, x ≠ "__name__" → mb x = bootBuiltins x) (lim : t.heap.NoLimit) (gens : t.gens = #[])
    (at_a : t.heap.get? a = some { cls := .type "list", data := .seq vs.toArray }) (room : Room k callerA)
    (F : ∀ base : Heap, K.In base → base.Ns mainGlobals mg → FnG P w K mg base k fa fd [x] sp) (bind : ∀ (s : Shared) (u : Value), BindsTo s fd ⟨[u], []⟩ [(x, u)])
    (hsp : sp [.ref a] H (fun v _ => v = .bl true) fun _ _ _ => False) (hO : Only H) (hok : HOk P w H t.heap) (hA : ∀ b, H b ≠ none → b = a ∧ K.lookup a = none) :
    codeAny (model P w) callerA (.call (.ref fa) ⟨[.ref a], []⟩) (fun r s' => r = .ok (.ret (.bool true)) ∧ OldK t.heap s'.heap ∧ s'.os = t.os ∧ AllBare s'.gens) t := by
  have dic : ∀ {b : Addr} {o : Obj} {es : Array DictEntry} {ep : Nat}, t.heap.get? b = some o → o.data = .dict es ep → H b = none := by
    intro b o es ep e d
    rcases hq : H b with _ | u
    · rfl
    · obtain ⟨rfl, _⟩ := hA b (by rw [hq]; exact Option.some_ne_none u)
      rw [at_a] at e
      obtain rfl := Option.some.inj e
      exact nomatch (show Data.seq vs.toArray _ = Data.dict es ep from d)
  have nsT : ∀ {b : Addr} {m : Str → Option Value}, t.heap.Ns b m → (hidT t.heap H).Ns b m := fun h => by
    obtain ⟨o, es, ep, e, d, r⟩ := h
    exact ⟨o, es, ep, hidT_get e (dic e d), d, r⟩
  have inK : K.In (hidT t.heap H) := fun b o e => hidT_get (KX b o e) (by
    rcases hq : H b with _ | u
    · rfl
    · obtain ⟨rfl, n⟩ := hA b (by rw [hq]; exact Option.some_ne_none u)
      rw [n] at e; cases e)
  have noL : (hidT t.heap H).NoLimit := by
    obtain ⟨mc, l1, l2⟩ := lim
    exact ⟨mc, nsT l1, l2⟩
  have env : Env0 P w K mg (hidT t.heap H) callerA [] t H := ⟨rfl, ⟨inK, nsT gl, ⟨mb, nsT bu, boot⟩, noL⟩, fun _ _ e => of_hidT e, Nat.le_of_eq (hidT_size _ _), trivial, (fun _ h => nomatch h), hok, .of_eq gens⟩
  refine codeAny_mono ((F _ inK (nsT gl)).go callerA [] t H _ [.ref a] [.ref a] _ _ rfl room env (bind t (.ref a)) (.cons rfl .nil) hsp) fun r s' h => ?_
  rcases r with e | fl
  · exact (show False from h).elim
  cases fl with
  | next => exact (show False from h).elim
  | brk => exact (show False from h).elim
  | cont => exact (show False from h).elim
  | ret u =>
    obtain ⟨v2, H2, o2, b2, un, hok2, r2, q2⟩ := h
    obtain rfl : v2 = .bl true := q2
    obtain rfl : u = Value.bool true := r2
    refine ⟨rfl, OldK.of_keep fun b o e => ?_, o2, b2⟩
    rcases hO b with z | ⟨ob, xs, z⟩
    · exact un.keep b o e z (fun h => nomatch h) (fun h => nomatch h)
    · obtain ⟨e1, _⟩ := hok b _ z
      obtain ⟨e2, _⟩ := hok2 b _ (un.frzs b ob _ z)
      rw [e] at e1
      obtain rfl := Option.some.inj e1
      exact e2
theorem call_G (KX : K.In t.heap) (gl : t.heap.Ns mainGlobals mg) (bu : t.heap.Ns builtinsNs mb) (boot : ∀ x : Str, x ≠ "__name__" → mb x = bootBuiltins x) (lim : t.heap.NoLimit) (gens : t.gens = #[])
    (at_a : t.heap.get? a = some { cls := .type "list", data := .seq vs.toArray }) (intv : IntsAre vs ns) (len : ns.length ≤ sizeLine) (room : Room k callerA)
    (F : ∀ base : Heap, K.In base → base.Ns mainGlobals mg → FnG P w K mg base k fa fd [x] sp) (bind : ∀ (s : Shared) (u : Value), BindsTo s fd ⟨[u], []⟩ [(x, u)])
    (hsp : ∀ H : Hp, Only H → SqL K H a (ns.map V.int) → sp [.ref a] H (fun v _ => v = .bl true) fun _ _ _ => False) :
    codeAny (model P w) callerA (.call (.ref fa) ⟨[.ref a], []⟩) (fun r s' => r = .ok (.ret (.bool true)) ∧ OldK t.heap s'.heap ∧ s'.os = t.os ∧ AllBare s'.gens) t := by
  have vi := vals_ints intv
  rcases hk : K.lookup a with _ | o
  · have one : ∀ b u, (if b = a then some (HO.frz { cls := .type "list", data := .seq vs.toArray } (.lst (ns.map V.int))) else none) = some u → b = a ∧ u = .frz { cls := .type "list", data := .seq vs.toArray } (.lst (ns.map V.int)) := fun b u h => by
      by_cases c : b = a
      · rw [if_pos c] at h
        exact ⟨c, (Option.some.inj h).symm⟩
      · rw [if_neg c] at h
        cases h
    have hO : Only fun b => if b = a then some (HO.frz { cls := .type "list", data := .seq vs.toArray } (.lst (ns.map V.int))) else none := fun b => by
      by_cases c : b = a
      · exact .inr ⟨_, _, if_pos c⟩
      · exact .inl (if_neg c)
    refine core_G KX gl bu boot lim gens at_a room F bind (hsp _ hO (.inl (.inr ⟨{ cls := .type "list", data := .seq vs.toArray }, if_pos rfl⟩))) hO (fun b u h => ?_) fun b h => ?_
    · obtain ⟨rfl, rfl⟩ := one b u h
      exact ⟨at_a, by rw [List.length_map]; exact len, vs, _, vi, at_a⟩
    · rcases hq : (if b = a then some (HO.frz { cls := .type "list", data := .seq vs.toArray } (.lst (ns.map V.int))) else none) with _ | u
      · exact absurd hq h
      · exact ⟨(one b u hq).1, hk⟩
  · have e := KX a o hk
    rw [at_a] at e
    obtain rfl := Option.some.inj e
    exact core_G KX gl bu boot lim gens at_a room F bind (hsp _ (fun _ => .inl rfl) (.inr ⟨_, vs.toArray, _, hk, rfl, rfl, rfl, by rw [List.size_toArray, intv.length]; exact len, by simpa using vi⟩)) (fun _ => .inl rfl) (fun b u h => nomatch h) fun b h => absurd rfl h
theorem walk_G {l : PySem.W.OpenLaw} {n j : Nat} {q : Program} {loose : List Str} {XP : (Str → Option Value) → Heap → Prop} {YP : World → Heap → Prop} {d : DefRec} {KK : Params → PySem.W.Frag} {spw : World → Sp} {y : Str}
    (hn : l.most = some n) (hn2 : n ≤ sizeLine) (hdf : d.params.defaults = []) (room : Room j callerA) (hY : ∀ (w : World) (h : Heap), YP w h → (KK w.params).In h)
    (F : ∀ (w : World) (mg : Str → Option Value) (fa : Addr) (h : Heap), (KK w.params).In h → h.Ns mainGlobals mg → mg d.name = some (.ref fa) →
      ∃ fd : FuncData, (∀ (s : Shared) (u : Value), BindsTo s fd ⟨[u], []⟩ [(y, u)]) ∧ ∀ base : Heap, (KK w.params).In base → base.Ns mainGlobals mg → FnG l.prog w (KK w.params) mg base j fa fd [y] (spw w))
    (hsp : ∀ (w : World) (H : Hp) (a : Addr) (ns : List Int), ns.length ≤ n → Only H → SqL (KK w.params) H a (ns.map V.int) → spw w [.ref a] H (fun v _ => v = .bl true) fun _ _ _ => False) :
    PySem.W.WalkO q loose XP YP l.row.toRowW d [] (fun f vs => PySem.call f vs) := by
  refine Att.attach_call hn hdf fun w s0 t mg mb fa o pm cd doc a vs ns G Y ho hd hcd hm hobj intv hlen gens => ?_
  have KX := hY w _ Y
  obtain ⟨fd, bind, FF⟩ := F w mg fa _ KX G.T.g hm
  exact call_G KX G.T.g G.T.b G.T.builtins G.T.nolimit gens hobj intv (Nat.le_trans hlen hn2) room FF bind fun H => hsp w H a ns hlen
end
end Dt

/-! Dt32: sorted(set(xs)) of ints, fewer than 64 of them unlike. -/
namespace Dt
open PySem PySem.Spec L2 DtX
open PyProof.Rows hiding St
theorem nodup_le {α : Type} [DecidableEq α] : ∀ {l m : List α}, l.Nodup → (∀ x ∈ l, x ∈ m) → l.length ≤ m.length
  | [], _, _, _ => Nat.zero_le _
  | x :: l, m, hn, h => by
    obtain ⟨h1, h2⟩ := List.nodup_cons.mp hn
    have hx := h x List.mem_cons_self
    have := nodup_le (m := m.erase x) h2 fun y hy => (List.mem_erase_of_ne (fun e => h1 (by rw [← e]; exact hy))).mpr (h y (List.mem_cons_of_mem _ hy))
    rw [List.length_erase_of_mem hx] at this
    have := List.length_pos_of_mem hx
    rw [List.length_cons]
    omega
section
variable {X : Cx} {a : Expr} {p p2 q pos : Pos} {f : FE}
def tSB (K : PySem.W.Frag) (ta : TE) : TE := fun σ H Q => ta σ H fun x H1 => ∃ (l : Addr) (ns : List Int), x = .ref l ∧ SqL K H1 l (ns.map V.int) ∧ (ns.length < 4000 ∧ (uset ns).length < 64) ∧ ∀ p, H1 p = none → Q (.ref p) (upd H1 p (.lst ((uset ns).map V.int)))
theorem pe_sb {ta : TE} (hc : X.calm = true) (hg : Gl X "sorted") (hm : X.mg "sorted" = none) (hg2 : Gl X "set") (hm2 : X.mg "set" = none) (ha : PE X a ta)
    (na : starEach [a] X.env = (false, eval a X.env) :: starEach [] X.env := by rfl) : PE X (.Call (.Name "sorted" p) [.Call (.Name "set" p2) [a] [] q] [] pos) (tSB X.F ta) := by
  refine ⟨fun pins s σ H Q I h => ?_⟩
  refine Call_ (ld_blt I hg hm PyProof.Rows.boot_sorted ?_)
  refine PyProof.Rows.callWith_builtin1 (PyProof.Rows.args_cons ?_ rfl) rfl rfl
  refine Call_ (ld_blt I hg2 hm2 boot_set ?_)
  refine PyProof.Rows.callWith_type1 (PyProof.Rows.args_cons (thn (ha.run pins s σ H _ I h) fun v s1 ⟨x, H1, I1, r1, q1⟩ => PyProof.Rows.args_nil ?_) na) na rfl
  obtain ⟨l, ns, rfl, hq, ⟨hl, hu⟩, k⟩ := q1
  cases r1
  obtain ⟨its, r, ht, hz⟩ := I1.list hq
  have hi : IntsAre its.toArray.toList ns := by simpa using RZ.intsAre_vals r
  refine DtS.call_set_lstI ns (I1.ok.hd hc) ht.isList hi (by unfold scanBound; omega) fun h' tk c R hcn hk => PyProof.Rows.args_nil ?_
  have R : SetR X.w ({ s1 with heap := h', toks := tk } : Shared).heap s1.heap.objs.size (fun j => decide (j ∈ ns)) c := R
  have hcu : c < 64 := by
    obtain ⟨o, es, ep, t, _, _, _, _, nd, hmm, _, _, hn, _⟩ := R
    have := nodup_le nd (m := uset ns) fun k hk => (uset_mem k ns).mpr (of_decide_eq_true ((hmm k).mpr hk))
    rw [List.length_map, Array.length_toList, hn] at this
    omega
  have I2 : Inv X pins σ H1 { s1 with heap := h', toks := tk } := I1.kept fun b o e => hk b o e
  generalize s1.heap.objs.size = q0 at R ⊢
  generalize ({ s1 with heap := h', toks := tk } : Shared) = s2 at I2 R ⊢
  refine sorted_set (s := s2) R (I2.ok.hd hc) hcu fun s' p out c ms kk g o hp hgt hi2 hs hm3 hl3 => ?_
  have he : ms = uset ns := pair_ext hs (uset_pair ns) fun k => by rw [hm3, uset_mem, decide_eq_true_eq]
  subst he
  have hlen : ((uset ns).map V.int).length ≤ sizeLine := by rw [List.length_map, sizeLine_eq]; omega
  have hn : H1 p = none := I2.hok.fresh hp
  have J : Inv X pins σ (upd H1 p (.lst ((uset ns).map V.int))) { s2 with heap := s'.heap, gens := s'.gens, drawn := s'.drawn, toks := s'.toks } :=
    I2.call (ch := []) (Un.laid kk hp hn) (I2.hok.laid kk hp ⟨hlen, out.toList, c, vals_of_ints hi2, hgt⟩) (by rw [g]; exact I2.bare) (fun _ z => nomatch z)
  have e : s' = { s2 with heap := s'.heap, gens := s'.gens, drawn := s'.drawn, toks := s'.toks } := by
    cases s'
    cases s2
    cases o
    rfl
  rw [e]
  exact ⟨.ref p, _, J, rfl, k p hn⟩
def nSSB (f : FE) : FN := fun ss => (f ss).bind fun d s1 => match d with
  | .list ds => match ds.mapM asI with
    | some ns => if ns.length < 4000 ∧ (uset ns).length < 64 then .ok (.lst ((uset ns).map .int)) s1 else .no
    | none => .no
  | _ => .no
theorem xssB (hc : X.calm = true) (hm : X.mg "sorted" = none) (hm2 : X.mg "set" = none) (ha : PE X a (tD X.F f)) (hg : Gl X "sorted" := by rfl) (hg2 : Gl X "set" := by rfl)
    (na : starEach [a] X.env = (false, eval a X.env) :: starEach [] X.env := by rfl) : PE X (.Call (.Name "sorted" p) [.Call (.Name "set" p2) [a] [] q] [] pos) (tN X.F (nSSB f)) := by
  refine (pe_sb hc hg hm hg2 hm2 ha na).imp fun σ H Q w => ?_
  obtain ⟨fx, ss, d, s3, fr, e, k⟩ := w
  obtain ⟨x, s1, e1, e⟩ := bind_ok e
  split at e
  · split at e
    · rename_i ns hns
      split at e
      · rename_i hl
        cases e
        refine ⟨fx, ss, _, _, fr, e1, fun v H1 k1 f1 r1 => ?_⟩
        obtain ⟨l, xs, rfl, g1, r1⟩ := r1.lstv
        rw [intsOf hns] at r1
        rw [r1.ints] at g1
        exact ⟨l, ns, rfl, g1.sq, hl, fun p hp => k p _ (k1.trans (.same (same_new hp))) (f1.same (same_new hp)) ⟨_, upd_same, rep_ints _⟩ (f1.newAt hp)⟩
      · cases e
    · cases e
  · cases e
end
end Dt

/-! Dm: the plain side: what the readings compute, by simp. -/
namespace Dm
open PySem L2 Dt
@[simp] theorem q_bind_ok {α β : Type} (a : α) (s : SS) (g : α → SS → Res β) : (Res.ok a s).bind g = g a s := rfl
@[simp] theorem q_bind_no {α β : Type} (g : α → SS → Res β) : (Res.no : Res α).bind g = .no := rfl
@[simp] theorem q_of_some {α : Type} (a : α) (s : SS) : Res.of (some a) s = .ok a s := rfl
@[simp] theorem q_of_none {α : Type} (s : SS) : Res.of (none : Option α) s = .no := rfl
@[simp] theorem q_size : sizeLine = 16777216 := rfl
@[simp] theorem q_eV (i : Nat) (ss : SS) : eV i ss = match ss[i]? with
  | some (.imm d) => .ok d ss
  | _ => .no := rfl
@[simp] theorem q_eC (d : D) (ss : SS) : eC d ss = .ok d ss := rfl
@[simp] theorem q_eOp (g a b) (ss : SS) : eOp g a b ss = (a ss).bind fun x s1 => (b s1).bind fun y s2 => .of (g x y) s2 := rfl
@[simp] theorem q_nOp (g a b) (ss : SS) : nOp g a b ss = (a ss).bind fun x s1 => (b s1).bind fun y s2 => .of (g x y) s2 := rfl
@[simp] theorem q_eUn (g a) (ss : SS) : eUn g a ss = (a ss).bind fun x s1 => .of (g x) s1 := rfl
@[simp] theorem q_eCB (g a) (ss : SS) : eCB g a ss = (a ss).bind fun x s1 => .of (g x) s1 := rfl
@[simp] theorem q_nCB (g a) (ss : SS) : nCB g a ss = (a ss).bind fun x s1 => .of (g x) s1 := rfl
@[simp] theorem q_eM (g a b) (ss : SS) : eM g a b ss = (a ss).bind fun x s1 => (b s1).bind fun y s2 => .of (g x y) s2 := rfl
@[simp] theorem q_eM1 (g a b) (ss : SS) : eM1 g a b ss = (a ss).bind fun x s1 => match x with
  | .str z => (b s1).bind fun y s2 => .of (g z y) s2
  | _ => .no := by
  unfold eM1; rfl
@[simp] theorem q_lNil (ss : SS) : lNil ss = .ok [] ss := rfl
@[simp] theorem q_lCons (a b) (ss : SS) : lCons a b ss = (a ss).bind fun x s1 => (b s1).bind fun y s2 => .ok (x :: y) s2 := rfl
@[simp] theorem q_eTup (a) (ss : SS) : eTup a ss = (a ss).bind fun x s1 => if x.length ≤ sizeLine then .ok (.tuple x) s1 else .no := rfl
@[simp] theorem q_nLst (a) (ss : SS) : nLst a ss = (a ss).bind fun x s1 => if x.length ≤ sizeLine then .ok (.lst x) s1 else .no := rfl
@[simp] theorem q_asB (b : Bool) : asB (.bool b) = some b := rfl
@[simp] theorem q_bOf (a) (ss : SS) : bOf a ss = (a ss).bind fun x s1 => .of (asB x) s1 := rfl
@[simp] theorem q_bAnd (a b) (ss : SS) : bAnd a b ss = (a ss).bind fun x s1 => if x = true then b s1 else .ok false s1 := rfl
@[simp] theorem q_bOr (a b) (ss : SS) : bOr a b ss = (a ss).bind fun x s1 => if x = true then .ok true s1 else b s1 := rfl
@[simp] theorem q_bNot (a) (ss : SS) : bNot a ss = (a ss).bind fun x s1 => .ok (!x) s1 := rfl
@[simp] theorem q_bYes (ss : SS) : bYes ss = .ok true ss := rfl
@[simp] theorem q_eAnd (a b) (ss : SS) : eAnd a b ss = (a ss).bind fun x s1 => match x with
  | .bool true => b s1
  | .bool false => .ok (.bool false) s1
  | _ => .no := by
  unfold eAnd; congr 1
@[simp] theorem q_eOr (a b) (ss : SS) : eOr a b ss = (a ss).bind fun x s1 => match x with
  | .bool true => .ok (.bool true) s1
  | .bool false => b s1
  | _ => .no := by
  unfold eOr; congr 1
@[simp] theorem q_eNot (a) (ss : SS) : eNot a ss = (a ss).bind fun x s1 => match x with
  | .bool b => .ok (.bool (!b)) s1
  | _ => .no := by
  unfold eNot; congr 1
@[simp] theorem q_eIf (c a b) (ss : SS) : eIf c a b ss = (c ss).bind fun x s1 => if x = true then a s1 else b s1 := rfl
@[simp] theorem q_eFz (f : FN) (ss : SS) : eFz f ss = (f ss).bind fun o s1 => .ok o.toD s1 := rfl
@[simp] theorem q_toD_l (ds) : O.toD (.lst ds) = .list ds := rfl
@[simp] theorem q_toD_d (ds) : O.toD (.dct ds) = .dict ds := rfl
@[simp] theorem q_put_o (o u) : (Sl.own o).put u = .own u := rfl
@[simp] theorem q_put_b (o u) : (Sl.bor o).put u = .bor u := rfl
@[simp] theorem q_obj_o (o) : (Sl.own o).obj = some o := rfl
@[simp] theorem q_obj_b (o) : (Sl.bor o).obj = some o := rfl
@[simp] theorem q_obj_i (o) : (Sl.imm o).obj = none := rfl
@[simp] theorem q_obj_u : (Sl.un).obj = none := rfl
@[simp] theorem q_sNil (ss : SS) : sNil ss = .nx ss := rfl
@[simp] theorem q_sSeq (a b) (ss : SS) : sSeq a b ss = (a ss).then b := rfl
@[simp] theorem q_then_nx (ss g) : (Out.nx ss).then g = g ss := rfl
@[simp] theorem q_then_rt (r ss g) : (Out.rt r ss).then g = .rt r ss := rfl
@[simp] theorem q_then_bk (ss g) : (Out.bk ss).then g = .bk ss := rfl
@[simp] theorem q_then_ct (ss g) : (Out.ct ss).then g = .ct ss := rfl
@[simp] theorem q_then_no (g) : (Out.no).then g = .no := rfl
@[simp] theorem q_sIf (c a b) (ss : SS) : sIf c a b ss = match c ss with
  | .ok x s1 => if x = true then a s1 else b s1
  | .no => .no := rfl
@[simp] theorem q_sRet (f) (ss : SS) : sRet f ss = match f ss with
  | .ok d s1 => .rt (.imm d) s1
  | .no => .no := rfl
@[simp] theorem q_sRetN (f) (ss : SS) : sRetN f ss = match f ss with
  | .ok d s1 => .rt (.own d) s1
  | .no => .no := rfl
@[simp] theorem q_sRet0 (ss : SS) : sRet0 ss = .rt (.imm .none) ss := rfl
@[simp] theorem q_sExpr (f) (ss : SS) : sExpr f ss = match f ss with
  | .ok _ s1 => .nx s1
  | .no => .no := rfl
@[simp] theorem q_sBk (ss : SS) : sBk ss = .bk ss := rfl
@[simp] theorem q_sCt (ss : SS) : sCt ss = .ct ss := rfl
@[simp] theorem q_gN (i d) (ss : SS) : Dt.gN i d ss = if i < ss.length then some (ss.set i (.imm d)) else none := rfl
@[simp] theorem q_gNil (ss : SS) : Dt.gNil [] ss = some ss := rfl
@[simp] theorem q_gCons (g h d r) (ss : SS) : Dt.gCons g h (d :: r) ss = (g d ss).bind fun s1 => h r s1 := by
  unfold Dt.gCons; cases e : g d ss <;> simp [e]
@[simp] theorem q_gTup (n g ds) (ss : SS) : gTup n g (.tuple ds) ss = if ds.length = n then g ds ss else none := rfl
@[simp] theorem q_gLst (n g ds) (ss : SS) : Dt.gLst n g (.list ds) ss = if ds.length = n then g ds ss else none := rfl
@[simp] theorem q_sAsg (f g) (ss : SS) : sAsg f g ss = match f ss with
  | .ok d s1 => match g d s1 with
    | some s2 => .nx s2
    | none => .no
  | .no => .no := rfl
@[simp] theorem q_sOwn (f i) (ss : SS) : sOwn f i ss = match f ss with
  | .ok o s1 => if i < s1.length then .nx (s1.set i (.own o)) else .no
  | .no => .no := rfl
@[simp] theorem q_sFor (src g b) (ss : SS) : sFor src g b ss = match src ss with
  | .ok ds s1 => loopF g b ds s1
  | .no => .no := rfl
@[simp] theorem q_lSeq (f) (ss : SS) : lSeq f ss = (f ss).bind fun d s1 => .of (itemsOf d) s1 := rfl
@[simp] theorem q_items_l (ds) : itemsOf (.list ds) = some ds := rfl
@[simp] theorem q_items_t (ds) : itemsOf (.tuple ds) = some ds := rfl
@[simp] theorem q_objAt (ss : SS) (i) : objAt ss i = (ss[i]?).bind Sl.obj := rfl
@[simp] theorem q_eVF (i : Nat) (ss : SS) : eVF i ss = match ss[i]? with
  | some (.imm d) => .ok d ss
  | some (.own o) => .ok o.toD (ss.set i (.imm o.toD))
  | _ => .no := rfl
@[simp] theorem q_sApp (i f) (ss : SS) : sApp i f ss = match objAt ss i with
  | some (.lst _) => match f ss with
    | .ok d s1 => match s1[i]? with
      | some s => match s.obj with
        | some (.lst ds) => if ds.length < sizeLine then .nx (s1.set i (s.put (.lst (ds ++ [d])))) else .no
        | _ => .no
      | none => .no
    | .no => .no
  | _ => .no := rfl
@[simp] theorem q_sSetL (i fi fv) (ss : SS) : sSetL i fi fv ss = match fv ss with
  | .no => .no
  | .ok d s1 => match objAt s1 i with
    | some (.lst _) => match fi s1 with
      | .ok (.int n) s2 => match s2[i]? with
        | some s => match s.obj with
          | some (.lst ds) => match ixN ds.length n with
            | some j => .nx (s2.set i (s.put (.lst (ds.set j d))))
            | none => .no
          | _ => .no
        | none => .no
      | _ => .no
    | _ => .no := rfl
@[simp] theorem q_eOix (i f) (ss : SS) : eOix i f ss = match objAt ss i with
  | some _ => (f ss).bind fun d s1 => match objAt s1 i, d with
    | some (.lst ds), .int n => .of (atI ds n) s1
    | _, _ => .no
  | none => .no := rfl
@[simp] theorem q_eOlen (i) (ss : SS) : eOlen i ss = match objAt ss i with
  | some (.lst ds) => .ok (.int ds.length) ss
  | _ => .no := rfl
@[simp] theorem q_oNone (ss : SS) : oNone ss = .ok none ss := rfl
@[simp] theorem q_eSl (f lo hi) (ss : SS) : eSl f lo hi ss = (f ss).bind fun d s1 => (lo s1).bind fun l s2 => (hi s2).bind fun h s3 => .of (dSl d l h) s3 := rfl
@[simp] theorem q_add (i j) : dAdd (.int i) (.int j) = some (.int (i + j)) := rfl
@[simp] theorem q_addl (xs ys) : dAdd (.list xs) (.list ys) = fits (xs.length + ys.length) (.list (xs ++ ys)) := rfl
@[simp] theorem q_addt (xs ys) : dAdd (.tuple xs) (.tuple ys) = fits (xs.length + ys.length) (.tuple (xs ++ ys)) := rfl
@[simp] theorem q_adds (x y) : dAdd (.str x) (.str y) = fits (x.length + y.length) (.str (x ++ y)) := rfl
@[simp] theorem q_fits (n d) : fits n d = if n ≤ sizeLine then some d else none := rfl
@[simp] theorem q_sub (i j) : dSub (.int i) (.int j) = some (.int (i - j)) := rfl
@[simp] theorem q_div (i j) : dDiv (.int i) (.int j) = if 0 < j ∧ j.natAbs.log2 < 9000 then some (.int (i / j)) else none := rfl
@[simp] theorem q_mod (i j) : dMod (.int i) (.int j) = if 0 < j then some (.int (i % j)) else none := rfl
@[simp] theorem q_neg (i) : dNeg (.int i) = some (.int (-i)) := rfl
@[simp] theorem q_mul (i j) : dMul (.int i) (.int j) = if i.natAbs.log2 + j.natAbs.log2 < 1000000 then some (.int (i * j)) else none := rfl
@[simp] theorem q_pow (i j) : dPow (.int i) (.int j) = if 0 ≤ j ∧ j ≤ 1000000 ∧ i.natAbs < 2 ^ 64 then some (.int (i ^ j.toNat)) else none := rfl
@[simp] theorem q_eq (i j) : dEq (.int i) (.int j) = some (.bool (i == j)) := rfl
@[simp] theorem q_ne (i j) : dNe (.int i) (.int j) = some (.bool (!(i == j))) := rfl
@[simp] theorem q_eqs (i j) : dEq (.str i) (.str j) = some (.bool (i == j)) := rfl
@[simp] theorem q_nes (i j) : dNe (.str i) (.str j) = some (.bool (!(i == j))) := rfl
@[simp] theorem q_lt (i j) : dLt (.int i) (.int j) = some (.bool (decide (i < j))) := rfl
@[simp] theorem q_le (i j) : dLe (.int i) (.int j) = some (.bool (decide (i ≤ j))) := rfl
@[simp] theorem q_gt (i j) : dGt (.int i) (.int j) = some (.bool (decide (j < i))) := rfl
@[simp] theorem q_ge (i j) : dGe (.int i) (.int j) = some (.bool (decide (j ≤ i))) := rfl
@[simp] theorem q_ixl (ds i) : dIx (.list ds) (.int i) = atI ds i := rfl
@[simp] theorem q_ixt (ds i) : dIx (.tuple ds) (.int i) = atI ds i := rfl
@[simp] theorem q_is_n (T) : dIs T .none = some (.bool false) := rfl
@[simp] theorem q_is_b (T b) : dIs T (.bool b) = some (.bool (T == "int" || T == "bool")) := rfl
@[simp] theorem q_is_i (T i) : dIs T (.int i) = some (.bool (T == "int")) := rfl
@[simp] theorem q_is_s (T x) : dIs T (.str x) = some (.bool (T == "str")) := rfl
@[simp] theorem q_is_l (T ds) : dIs T (.list ds) = some (.bool (T == "list")) := rfl
@[simp] theorem q_is_t (T ds) : dIs T (.tuple ds) = some (.bool (T == "tuple")) := rfl
@[simp] theorem q_eCh (g h a b c) (ss : SS) : eCh g h a b c ss = (a ss).bind fun x s1 => (b s1).bind fun y s2 => (Res.of (g x y) s2).bind fun z s3 => match z with
  | .bool true => (c s3).bind fun w s4 => .of (h y w) s4
  | .bool false => .ok (.bool false) s3
  | _ => .no := rfl
@[simp] theorem q_len_l (ds) : gLen [.list ds] = some (.int ds.length) := rfl
@[simp] theorem q_len_t (ds) : gLen [.tuple ds] = some (.int ds.length) := rfl
@[simp] theorem q_all (ds) : gAll [.list ds] = (ds.mapM asB).map fun bs => .bool (bs.all id) := rfl
@[simp] theorem q_any (ds) : gAny [.list ds] = (ds.mapM asB).map fun bs => .bool (bs.any id) := rfl
@[simp] theorem q_int_b (b) : gInt [.bool b] = some (.int (if b = true then 1 else 0)) := rfl
@[simp] theorem q_int_i (b) : gInt [.int b] = some (.int b) := rfl
@[simp] theorem q_list_l (ds) : gList [.list ds] = some (.lst ds) := rfl
@[simp] theorem q_list_t (ds) : gList [.tuple ds] = some (.lst ds) := rfl
@[simp] theorem q_oSome (f) (ss : SS) : oSome f ss = (f ss).bind fun d s1 => match d with
  | .int i => .ok (some i) s1
  | _ => .no := rfl
@[simp] theorem q_lRng1 (f) (ss : SS) : lRng1 f ss = (f ss).bind fun d s1 => match d with
  | [.int j] => if small j = true then .ok (rangeD 0 j.toNat) s1 else .no
  | _ => .no := rfl
@[simp] theorem q_eRev (f) (ss : SS) : eRev f ss = (f ss).bind fun d s1 => match d with
  | .tuple ds => .ok (.tuple ds.reverse) s1
  | .str z => if z.length ≤ sizeLine then .ok (.str (revS z)) s1 else .no
  | _ => .no := rfl
@[simp] theorem q_nM1 (g a b) (ss : SS) : nM1 g a b ss = (a ss).bind fun x s1 => match x with
  | .str x => (b s1).bind fun y s2 => .of (g x y) s2
  | _ => .no := rfl
@[simp] theorem q_sl_l (ds lo hi) : dSl (.list ds) lo hi = some (.list (cutD ds lo hi)) := rfl
@[simp] theorem q_sl_t (ds lo hi) : dSl (.tuple ds) lo hi = some (.tuple (cutD ds lo hi)) := rfl
@[simp] theorem q_max (i j) : gMax [.int i, .int j] = some (.int (if j > i then j else i)) := rfl
@[simp] theorem q_min (i j) : gMin [.int i, .int j] = some (.int (if j < i then j else i)) := rfl
@[simp] theorem q_tup_l (ds) : gTuple [.list ds] = some (.tuple ds) := rfl
@[simp] theorem q_tup_t (ds) : gTuple [.tuple ds] = some (.tuple ds) := rfl
@[simp] theorem q_sum (ds) : gSum [.list ds] = (ds.mapM asI).map fun bs => .int bs.sum := rfl
theorem at_get {α : Type} {xs : List α} {n : Nat} {x : α} (h : xs[n]? = some x) : atI xs (n : Int) = some x := by
  have hn := (List.getElem?_eq_some_iff.mp h).1
  unfold atI ixN
  rw [if_pos (by omega), if_pos (by omega)]
  simpa using h
theorem at_none {α : Type} {xs : List α} {n : Nat} (h : xs.length ≤ n) : atI xs (n : Int) = none := by
  unfold atI ixN
  rw [if_pos (by omega), if_neg (by omega)]
  rfl
@[simp] theorem q_at0 {α : Type} (x0 : α) (xs : List α) : atI (x0 :: xs) 0 = some x0 := at_get (n := 0) rfl
@[simp] theorem q_at1 {α : Type} (x0 x1 : α) (xs : List α) : atI (x0 :: x1 :: xs) 1 = some x1 := at_get (n := 1) rfl
@[simp] theorem q_at2 {α : Type} (x0 x1 x2 : α) (xs : List α) : atI (x0 :: x1 :: x2 :: xs) 2 = some x2 := at_get (n := 2) rfl
@[simp] theorem q_at3 {α : Type} (x0 x1 x2 x3 : α) (xs : List α) : atI (x0 :: x1 :: x2 :: x3 :: xs) 3 = some x3 := at_get (n := 3) rfl
@[simp] theorem q_at4 {α : Type} (x0 x1 x2 x3 x4 : α) (xs : List α) : atI (x0 :: x1 :: x2 :: x3 :: x4 :: xs) 4 = some x4 := at_get (n := 4) rfl
@[simp] theorem q_at5 {α : Type} (x0 x1 x2 x3 x4 x5 : α) (xs : List α) : atI (x0 :: x1 :: x2 :: x3 :: x4 :: x5 :: xs) 5 = some x5 := at_get (n := 5) rfl
@[simp] theorem q_at6 {α : Type} (x0 x1 x2 x3 x4 x5 x6 : α) (xs : List α) : atI (x0 :: x1 :: x2 :: x3 :: x4 :: x5 :: x6 :: xs) 6 = some x6 := at_get (n := 6) rfl
@[simp] theorem q_at7 {α : Type} (x0 x1 x2 x3 x4 x5 x6 x7 : α) (xs : List α) : atI (x0 :: x1 :: x2 :: x3 :: x4 :: x5 :: x6 :: x7 :: xs) 7 = some x7 := at_get (n := 7) rfl
@[simp] theorem q_atL {α : Type} (x : α) (xs : List α) : atI (xs ++ [x]) (-1) = some x := by
  unfold atI ixN
  rw [if_neg (by decide), if_pos (by simp; omega)]
  have : ((-1 : Int) + ((xs ++ [x]).length : Nat)).toNat = xs.length := by rw [List.length_append, List.length_singleton]; omega
  rw [Option.bind_some, this, List.getElem?_append_right (Nat.le_refl _)]
  simp
@[simp] theorem q_ixL {α : Type} (x : α) (xs : List α) : ixN (xs ++ [x]).length (-1) = some xs.length := by
  unfold ixN
  rw [if_neg (by decide), if_pos (by simp; omega), List.length_append, List.length_singleton]
  congr 1
  omega
theorem ix_nat {n k : Nat} (h : k < n) : ixN n (k : Int) = some k := by
  unfold ixN
  rw [if_pos (by omega), if_pos (by omega)]
  rfl
theorem log_lt {x : Int} (h : x.natAbs < 2 ^ 64) : x.natAbs.log2 < 64 := by
  by_cases h0 : x.natAbs = 0
  · rw [h0]; decide
  · exact (Nat.log2_lt h0).mpr h
theorem q_log9 {n : Nat} (h : n < 18446744073709551616) : n.log2 < 9000 := by
  by_cases h0 : n = 0
  · rw [h0]; decide
  · have : n.log2 < 64 := (Nat.log2_lt h0).mpr h
    omega
@[simp] theorem q_log {n : Nat} (h : n < 18446744073709551616) : (n.log2 < 9000) = True := eq_true (q_log9 h)
theorem mul_ok {i j : Int} (h1 : i.natAbs < 2 ^ 64) (h2 : j.natAbs < 2 ^ 64) : i.natAbs.log2 + j.natAbs.log2 < 1000000 := by
  have := log_lt h1
  have := log_lt h2
  omega
@[simp] theorem q_mulok {i j : Int} (h1 : i.natAbs < 18446744073709551616) (h2 : j.natAbs < 18446744073709551616) : (i.natAbs.log2 + j.natAbs.log2 < 1000000) = True := eq_true (mul_ok h1 h2)
theorem mul_int {i j : Int} (h1 : i.natAbs < 2 ^ 64) (h2 : j.natAbs < 2 ^ 64) : dMul (.int i) (.int j) = some (.int (i * j)) := by
  rw [q_mul, if_pos (mul_ok h1 h2)]
theorem div_int {i j : Int} (h1 : 0 < j) (h2 : j.natAbs < 2 ^ 64) : dDiv (.int i) (.int j) = some (.int (i / j)) := by
  rw [q_div, if_pos ⟨h1, Nat.lt_trans (log_lt h2) (by decide)⟩]
theorem mod_int {i j : Int} (h1 : 0 < j) : dMod (.int i) (.int j) = some (.int (i % j)) := by
  rw [q_mod, if_pos h1]
/-! ### calls -/
def ev1 (F : FnS) (a : D) : Option D := match F [.imm a] with
  | some (.imm r, [_]) => some r
  | _ => none
def ev2 (F : FnS) (a b : D) : Option D := match F [.imm a, .imm b] with
  | some (.imm r, [_, _]) => some r
  | _ => none
def ev3 (F : FnS) (a b c : D) : Option D := match F [.imm a, .imm b, .imm c] with
  | some (.imm r, [_, _, _]) => some r
  | _ => none
def ev4 (F : FnS) (a b c d : D) : Option D := match F [.imm a, .imm b, .imm c, .imm d] with
  | some (.imm r, [_, _, _, _]) => some r
  | _ => none
def nv1 (F : FnS) (a : D) : Option O := match F [.imm a] with
  | some (.own r, [_]) => some r
  | _ => none
def nv2 (F : FnS) (a b : D) : Option O := match F [.imm a, .imm b] with
  | some (.own r, [_, _]) => some r
  | _ => none
def rv1 (F : FnS) (o : O) : Option (D × O) := match F [.bor o] with
  | some (.imm r, [.bor u]) => some (r, u)
  | _ => none
def rv2 (F : FnS) (o : O) (a : D) : Option (D × O) := match F [.bor o, .imm a] with
  | some (.imm r, [.bor u, _]) => some (r, u)
  | _ => none
def rv3 (F : FnS) (o : O) (a b : D) : Option (D × O) := match F [.bor o, .imm a, .imm b] with
  | some (.imm r, [.bor u, _, _]) => some (r, u)
  | _ => none
def fin (n : Nat) : Out → Option D
  | .rt (.imm r) ss => if n ≤ ss.length then some r else none
  | .nx ss => if n ≤ ss.length then some .none else none
  | _ => none
def finN (n : Nat) : Out → Option O
  | .rt (.own r) ss => if n ≤ ss.length then some r else none
  | _ => none
def finR (n : Nat) : Out → Option (D × O)
  | .rt (.imm r) (.bor u :: ss) => if n ≤ ss.length then some (r, u) else none
  | .nx (.bor u :: ss) => if n ≤ ss.length then some (.none, u) else none
  | _ => none
@[simp] theorem q_fin_rt (n r ss) : fin n (.rt (.imm r) ss) = if n ≤ ss.length then some r else none := rfl
@[simp] theorem q_fin_nx (n ss) : fin n (.nx ss) = if n ≤ ss.length then some .none else none := rfl
@[simp] theorem q_fin_no (n) : fin n .no = none := rfl
@[simp] theorem q_finN_rt (n r ss) : finN n (.rt (.own r) ss) = if n ≤ ss.length then some r else none := rfl
@[simp] theorem q_finN_no (n) : finN n .no = none := rfl
@[simp] theorem q_finR_rt (n r u ss) : finR n (.rt (.imm r) (.bor u :: ss)) = if n ≤ ss.length then some (r, u) else none := rfl
@[simp] theorem q_finR_nx (n u ss) : finR n (.nx (.bor u :: ss)) = if n ≤ ss.length then some (.none, u) else none := rfl
@[simp] theorem q_finR_no (n) : finR n .no = none := rfl
theorem q_ev1 (n b a) : ev1 (callF n b) a = fin 1 (b (.imm a :: List.replicate (n - 1) .un)) := by
  unfold ev1 callF
  simp only [List.cons_append, List.nil_append, List.length_cons, List.length_nil, Nat.zero_add, Nat.reduceAdd]
  generalize b _ = o
  cases o with
  | rt r ss => rcases ss with _ | ⟨x, ss⟩ <;> cases r <;> simp [fin]
  | nx ss => rcases ss with _ | ⟨x, ss⟩ <;> simp [fin]
  | _ => rfl
theorem q_ev2 (n b a c) : ev2 (callF n b) a c = fin 2 (b (.imm a :: .imm c :: List.replicate (n - 2) .un)) := by
  unfold ev2 callF
  simp only [List.cons_append, List.nil_append, List.length_cons, List.length_nil, Nat.zero_add, Nat.reduceAdd]
  generalize b _ = o
  cases o with
  | rt r ss => rcases ss with _ | ⟨x, _ | ⟨y, ss⟩⟩ <;> cases r <;> simp [fin]
  | nx ss => rcases ss with _ | ⟨x, _ | ⟨y, ss⟩⟩ <;> simp [fin]
  | _ => rfl
theorem q_ev3 (n b a c d) : ev3 (callF n b) a c d = fin 3 (b (.imm a :: .imm c :: .imm d :: List.replicate (n - 3) .un)) := by
  unfold ev3 callF
  simp only [List.cons_append, List.nil_append, List.length_cons, List.length_nil, Nat.zero_add, Nat.reduceAdd]
  generalize b _ = o
  cases o with
  | rt r ss => rcases ss with _ | ⟨x, _ | ⟨y, _ | ⟨z, ss⟩⟩⟩ <;> cases r <;> simp [fin]
  | nx ss => rcases ss with _ | ⟨x, _ | ⟨y, _ | ⟨z, ss⟩⟩⟩ <;> simp [fin]
  | _ => rfl
theorem q_nv1 (n b a) : nv1 (callF n b) a = finN 1 (b (.imm a :: List.replicate (n - 1) .un)) := by
  unfold nv1 callF
  simp only [List.cons_append, List.nil_append, List.length_cons, List.length_nil, Nat.zero_add, Nat.reduceAdd]
  generalize b _ = o
  cases o with
  | rt r ss => rcases ss with _ | ⟨x, ss⟩ <;> cases r <;> simp [finN]
  | nx ss => rcases ss with _ | ⟨x, ss⟩ <;> simp [finN]
  | _ => rfl
theorem q_nv2 (n b a c) : nv2 (callF n b) a c = finN 2 (b (.imm a :: .imm c :: List.replicate (n - 2) .un)) := by
  unfold nv2 callF
  simp only [List.cons_append, List.nil_append, List.length_cons, List.length_nil, Nat.zero_add, Nat.reduceAdd]
  generalize b _ = o
  cases o with
  | rt r ss => rcases ss with _ | ⟨x, _ | ⟨y, ss⟩⟩ <;> cases r <;> simp [finN]
  | nx ss => rcases ss with _ | ⟨x, _ | ⟨y, ss⟩⟩ <;> simp [finN]
  | _ => rfl
theorem q_rv1 (n b a) : rv1 (callF n b) a = finR 0 (b (.bor a :: List.replicate (n - 1) .un)) := by
  unfold rv1 callF
  simp only [List.cons_append, List.nil_append, List.length_cons, List.length_nil, Nat.zero_add, Nat.reduceAdd]
  generalize b _ = o
  cases o with
  | rt r ss => rcases ss with _ | ⟨_ | _ | _ | _, ss⟩ <;> cases r <;> simp [finR]
  | nx ss => rcases ss with _ | ⟨_ | _ | _ | _, ss⟩ <;> simp [finR]
  | _ => rfl
theorem q_rv2 (n b a c) : rv2 (callF n b) a c = finR 1 (b (.bor a :: .imm c :: List.replicate (n - 2) .un)) := by
  unfold rv2 callF
  simp only [List.cons_append, List.nil_append, List.length_cons, List.length_nil, Nat.zero_add, Nat.reduceAdd]
  generalize b _ = o
  cases o with
  | rt r ss => rcases ss with _ | ⟨_ | _ | _ | _, _ | ⟨y, ss⟩⟩ <;> cases r <;> simp [finR]
  | nx ss => rcases ss with _ | ⟨_ | _ | _ | _, _ | ⟨y, ss⟩⟩ <;> simp [finR]
  | _ => rfl
@[simp] theorem q_c1 (F : FnS) (a : FE) (ss : SS) : eCall F (aCons a aNil) ss = (a ss).bind fun x s1 => Res.of (ev1 F x) s1 := by
  unfold eCall aCons
  cases a ss with
  | no => rfl
  | ok x s1 =>
    simp only [q_bind_ok, aNil]
    unfold callAt ev1
    simp only [refs, List.nodup_nil, if_true, resolve, Option.map_some, Option.bind_some]
    cases e : F [.imm x] with
    | none => rfl
    | some p =>
      obtain ⟨r, _ | ⟨y, _ | ⟨z, t⟩⟩⟩ := p <;> cases r <;> rfl
@[simp] theorem q_c2 (F : FnS) (a b : FE) (ss : SS) : eCall F (aCons a (aCons b aNil)) ss = (a ss).bind fun x s1 => (b s1).bind fun y s2 => Res.of (ev2 F x y) s2 := by
  unfold eCall aCons
  cases a ss with
  | no => rfl
  | ok x s1 =>
    simp only [q_bind_ok, aNil]
    cases b s1 with
    | no => rfl
    | ok y s2 =>
      simp only [q_bind_ok]
      unfold callAt ev2
      simp only [refs, List.nodup_nil, if_true, resolve, Option.map_some, Option.bind_some]
      cases e : F [.imm x, .imm y] with
      | none => rfl
      | some p =>
        obtain ⟨r, _ | ⟨y, _ | ⟨z, _ | ⟨_, t⟩⟩⟩⟩ := p <;> cases r <;> rfl
@[simp] theorem q_c3 (F : FnS) (a b c : FE) (ss : SS) : eCall F (aCons a (aCons b (aCons c aNil))) ss = (a ss).bind fun x s1 => (b s1).bind fun y s2 => (c s2).bind fun z s3 => Res.of (ev3 F x y z) s3 := by
  unfold eCall aCons
  cases a ss with
  | no => rfl
  | ok x s1 =>
    simp only [q_bind_ok, aNil]
    cases b s1 with
    | no => rfl
    | ok y s2 =>
      simp only [q_bind_ok]
      cases c s2 with
      | no => rfl
      | ok z s3 =>
        simp only [q_bind_ok]
        unfold callAt ev3
        simp only [refs, List.nodup_nil, if_true, resolve, Option.map_some, Option.bind_some]
        cases e : F [.imm x, .imm y, .imm z] with
        | none => rfl
        | some p =>
          obtain ⟨r, _ | ⟨y, _ | ⟨z, _ | ⟨_, _ | ⟨_, t⟩⟩⟩⟩⟩ := p <;> cases r <;> rfl
@[simp] theorem q_n1 (F : FnS) (a : FE) (ss : SS) : nCall F (aCons a aNil) ss = (a ss).bind fun x s1 => Res.of (nv1 F x) s1 := by
  unfold nCall aCons
  cases a ss with
  | no => rfl
  | ok x s1 =>
    simp only [q_bind_ok, aNil]
    unfold callAt nv1
    simp only [refs, List.nodup_nil, if_true, resolve, Option.map_some, Option.bind_some]
    cases e : F [.imm x] with
    | none => rfl
    | some p =>
      obtain ⟨r, _ | ⟨y, _ | ⟨z, t⟩⟩⟩ := p <;> cases r <;> rfl
@[simp] theorem q_n2 (F : FnS) (a b : FE) (ss : SS) : nCall F (aCons a (aCons b aNil)) ss = (a ss).bind fun x s1 => (b s1).bind fun y s2 => Res.of (nv2 F x y) s2 := by
  unfold nCall aCons
  cases a ss with
  | no => rfl
  | ok x s1 =>
    simp only [q_bind_ok, aNil]
    cases b s1 with
    | no => rfl
    | ok y s2 =>
      simp only [q_bind_ok]
      unfold callAt nv2
      simp only [refs, List.nodup_nil, if_true, resolve, Option.map_some, Option.bind_some]
      cases e : F [.imm x, .imm y] with
      | none => rfl
      | some p =>
        obtain ⟨r, _ | ⟨y, _ | ⟨z, _ | ⟨_, t⟩⟩⟩⟩ := p <;> cases r <;> rfl
@[simp] theorem q_r1 (F : FnS) (i : Nat) (ss : SS) : eCall F (aRef i aNil) ss = match ss[i]? with
  | some (.own o) => (match rv1 F o with | some (d, u) => .ok d (ss.set i (.own u)) | none => .no)
  | some (.bor o) => (match rv1 F o with | some (d, u) => .ok d (ss.set i (.bor u)) | none => .no)
  | _ => .no := by
  unfold eCall aRef aNil
  cases h : ss[i]? with
  | none => rfl
  | some s =>
    cases s with
    | un => rfl
    | imm d => rfl
    | own o =>
      simp only [Option.bind_some, q_obj_o, q_bind_ok]
      unfold callAt rv1
      simp only [refs, List.nodup_cons, List.nodup_nil, List.not_mem_nil, not_false_eq_true, and_self, if_true, resolve, h, Option.bind_some, q_obj_o, Option.map_some]
      cases e : F [.bor o] with
      | none => rfl
      | some p =>
        obtain ⟨r, _ | ⟨_ | _ | _ | _, _ | ⟨z, t⟩⟩⟩ := p <;> cases r <;> simp [putB, h]
    | bor o =>
      simp only [Option.bind_some, q_obj_b, q_bind_ok]
      unfold callAt rv1
      simp only [refs, List.nodup_cons, List.nodup_nil, List.not_mem_nil, not_false_eq_true, and_self, if_true, resolve, h, Option.bind_some, q_obj_b, Option.map_some]
      cases e : F [.bor o] with
      | none => rfl
      | some p =>
        obtain ⟨r, _ | ⟨_ | _ | _ | _, _ | ⟨z, t⟩⟩⟩ := p <;> cases r <;> simp [putB, h]
theorem q_r2 (F : FnS) (i : Nat) (a : FE) (ss : SS) : eCall F (aRef i (aCons a aNil)) ss = match (ss[i]?).bind Sl.obj with
  | some _ => (a ss).bind fun x s1 => (match s1[i]? with
    | some (.own o) => (match rv2 F o x with | some (d, u) => .ok d (s1.set i (.own u)) | none => .no)
    | some (.bor o) => (match rv2 F o x with | some (d, u) => .ok d (s1.set i (.bor u)) | none => .no)
    | _ => .no)
  | none => .no := by
  unfold eCall aRef aCons aNil
  cases h0 : (ss[i]?).bind Sl.obj with
  | none => rfl
  | some o0 =>
    simp only
    cases a ss with
    | no => rfl
    | ok d s1 =>
      simp only [q_bind_ok]
      unfold callAt rv2
      simp only [refs, List.nodup_cons, List.nodup_nil, List.not_mem_nil, not_false_eq_true, and_self, if_true, resolve, Option.map_some]
      cases h : s1[i]? with
      | none => rfl
      | some s =>
        cases s with
        | un => rfl
        | imm d => rfl
        | own o =>
          simp only [Option.bind_some, q_obj_o]
          cases e : F [.bor o, .imm d] with
          | none => rfl
          | some p =>
            obtain ⟨r, _ | ⟨_ | _ | _ | _, _ | ⟨z, _ | ⟨_, t⟩⟩⟩⟩ := p <;> cases r <;> simp [putB, h]
        | bor o =>
          simp only [Option.bind_some, q_obj_b]
          cases e : F [.bor o, .imm d] with
          | none => rfl
          | some p =>
            obtain ⟨r, _ | ⟨_ | _ | _ | _, _ | ⟨z, _ | ⟨_, t⟩⟩⟩⟩ := p <;> cases r <;> simp [putB, h]
/-! ### loops, comprehensions -/
theorem loop_fold {α β : Type} {g : GF} {b : FS} (enc : α → D) (f : β → α → β) (R : β → SS → Prop) (C : α → Prop) (h : ∀ s ss x, R s ss → C x → ∃ s1 s2, g (enc x) ss = some s1 ∧ b s1 = .nx s2 ∧ R (f s x) s2) :
    ∀ (xs : List α) (s : β) (ss : SS), R s ss → (∀ x ∈ xs, C x) → ∃ s2, loopF g b (xs.map enc) ss = .nx s2 ∧ R (xs.foldl f s) s2
  | [], s, ss, r, _ => ⟨ss, rfl, r⟩
  | x :: xs, s, ss, r, c => by
    obtain ⟨s1, s2, h1, h2, h3⟩ := h s ss x r (c x List.mem_cons_self)
    obtain ⟨s3, h4, h5⟩ := loop_fold enc f R C h xs (f s x) s2 h3 fun y hy => c y (List.mem_cons_of_mem _ hy)
    refine ⟨s3, ?_, h5⟩
    rw [List.map_cons]
    unfold loopF
    rw [h1]
    simp only [h2]
    exact h4
theorem loop_rest {α β : Type} {g : GF} {b : FS} (enc : α → D) (f : β → α → β) (R : β → List α → SS → Prop) (h : ∀ s x r ss, R s (x :: r) ss → ∃ s1 s2, g (enc x) ss = some s1 ∧ b s1 = .nx s2 ∧ R (f s x) r s2) :
    ∀ (xs : List α) (s : β) (ss : SS), R s xs ss → ∃ s2, loopF g b (xs.map enc) ss = .nx s2 ∧ R (xs.foldl f s) [] s2
  | [], s, ss, r => ⟨ss, rfl, r⟩
  | x :: xs, s, ss, r => by
    obtain ⟨s1, s2, h1, h2, h3⟩ := h s x xs ss r
    obtain ⟨s3, h4, h5⟩ := loop_rest enc f R h xs (f s x) s2 h3
    refine ⟨s3, ?_, h5⟩
    rw [List.map_cons]
    unfold loopF
    rw [h1]
    simp only [h2]
    exact h4
@[simp] theorem q_ePkL (g i f) (ss : SS) : ePkL g i f ss = match objAt ss i with
  | some _ => (f ss).bind fun y s1 => match objAt s1 i with
    | some o => match g o.toD y with
      | some (.bool b) => .ok (.bool b) s1
      | _ => .no
    | none => .no
  | none => .no := rfl
theorem set_last {α : Type} (xs : List α) (x y : α) : (xs ++ [x]).set xs.length y = xs ++ [y] := by
  rw [List.set_append_right _ _ (Nat.le_refl _)]
  simp
theorem comp_pure {vs : List Nat} {g : GF} {t : FB} {e : FE} {ss : SS} (f : D → Option D) : ∀ ds : List D, (∀ d ∈ ds, turnF vs g t e d ss = some (f d, ss)) → compF vs g t e ds ss = some (ds.filterMap f, ss)
  | [], _ => rfl
  | d :: ds, h => by
    unfold compF
    rw [h d List.mem_cons_self]
    simp only
    rw [comp_pure f ds fun e he => h e (List.mem_cons_of_mem _ he)]
    simp only [List.filterMap_cons]
    cases f d <;> rfl
theorem comp_map {α : Type} {vs : List Nat} {g : GF} {t : FB} {e : FE} {ss : SS} (enc : α → D) (p : α → Bool) (f : α → D) : ∀ xs : List α, (∀ x ∈ xs, turnF vs g t e (enc x) ss = some (if p x = true then some (f x) else none, ss)) → compF vs g t e (xs.map enc) ss = some ((xs.filter p).map f, ss)
  | [], _ => rfl
  | d :: ds, h => by
    rw [List.map_cons]
    unfold compF
    rw [h d List.mem_cons_self]
    simp only
    rw [comp_map enc p f ds fun e he => h e (List.mem_cons_of_mem _ he)]
    simp only
    by_cases hp : p d = true
    · rw [if_pos hp, List.filter_cons_of_pos hp]; rfl
    · rw [if_neg hp, List.filter_cons_of_neg hp]; rfl
theorem comp2_map {α β : Type} {vs vs1 : List Nat} {g : GF} {t : FB} {src : FL} {g1 : GF} {t1 : FB} {e : FE} {ss : SS} (enc : α → D) (f : α → List D) : ∀ xs : List α, (∀ x ∈ xs, turn2F vs vs1 g t src g1 t1 e (enc x) ss = some (f x, ss)) → comp2F vs vs1 g t src g1 t1 e (xs.map enc) ss = some (xs.flatMap f, ss)
  | [], _ => rfl
  | d :: ds, h => by
    rw [List.map_cons]
    unfold comp2F
    rw [h d List.mem_cons_self]
    simp only
    rw [comp2_map (β := β) enc f ds fun e he => h e (List.mem_cons_of_mem _ he)]
    rfl
theorem comp_st {vs : List Nat} {g : GF} {t : FB} {e : FE} (N : Nat) (R : Nat → SS → Prop) (P : D → Prop) : ∀ (ds : List D) (j : Nat) (ss : SS), j + ds.length = N → R j ss → (∀ j ss d, j < N → d ∈ ds → R j ss → ∃ x s1, turnF vs g t e d ss = some (some x, s1) ∧ P x ∧ R (j + 1) s1) →
    ∃ xs s2, compF vs g t e ds ss = some (xs, s2) ∧ xs.length = ds.length ∧ (∀ x ∈ xs, P x) ∧ R N s2
  | [], j, ss, hN, r, _ => ⟨[], ss, rfl, rfl, fun x hx => (nomatch hx), by rw [← hN]; exact r⟩
  | d :: ds, j, ss, hN, r, h => by
    rw [List.length_cons] at hN
    obtain ⟨x, s1, h1, h2, h3⟩ := h j ss d (by omega) List.mem_cons_self r
    obtain ⟨xs, s2, k1, k2, k3, k4⟩ := comp_st N R P ds (j + 1) s1 (by omega) h3 fun j ss d hj hd => h j ss d hj (List.mem_cons_of_mem _ hd)
    refine ⟨x :: xs, s2, ?_, by rw [List.length_cons, List.length_cons, k2], fun y hy => ?_, k4⟩
    · unfold compF
      rw [h1]
      simp only [k1]
      rfl
    · rcases List.mem_cons.mp hy with rfl | hy
      · exact h2
      · exact k3 y hy
theorem at_mem {α : Type} {xs : List α} {k : Int} (h0 : 0 ≤ k) (h1 : k < xs.length) : ∃ x ∈ xs, atI xs k = some x := by
  obtain ⟨n, rfl⟩ := Int.eq_ofNat_of_zero_le h0
  have hn : n < xs.length := by omega
  exact ⟨xs[n], List.getElem_mem hn, at_get (List.getElem?_eq_getElem hn)⟩
@[simp] theorem q_nLc (vs src g t e) (ss : SS) : nLc vs src g t e ss = (src ss).bind fun ds s1 => match compF vs g t e ds (wipeS s1 vs) with
    | some (xs, s2) => if xs.length ≤ sizeLine then .ok (.lst xs) (backS vs s1 s2) else .no
    | none => .no := rfl
@[simp] theorem q_nLc2 (vs vs1 src g t src1 g1 t1 e) (ss : SS) : nLc2 vs vs1 src g t src1 g1 t1 e ss = (src ss).bind fun ds s1 => match comp2F vs vs1 g t src1 g1 t1 e ds (wipeS s1 vs) with
    | some (xs, s2) => if xs.length ≤ sizeLine then .ok (.lst xs) (backS vs s1 s2) else .no
    | none => .no := rfl
end Dm

set_option maxHeartbeats 1000000
/-! Dk: the deck of a law. -/
namespace Dk
open PySem L2 Dt Dm
def B_deck : FS := (sSeq (sIf (bOf (eOp dGe (eV 0) (eOp dPow (eC (.int 10)) (eC (.int 18))))) (sRetN (nLst (lCons (eOp dSub (eV 0) (eOp dPow (eC (.int 10)) (eC (.int 18)))) (lCons (eOp dMod (eV 0) (eC (.int 2147483579))) (lCons (eV 1) lNil))))) sNil)
    (sRetN (nLst (lCons (eC (.int 0)) (lCons (eOp dMod (eV 0) (eC (.int 2147483579))) (lCons (eV 1) lNil))))))
def F_deck : FnS := callF 2 B_deck
def B_pick : FS := (sSeq (sIf (bOf (eOp dGt (eOix 0 (eC (.int 0))) (eC (.int 1)))) (sSeq (sAsg (eOp dMod (eOix 0 (eC (.int 0))) (eV 1)) (gN 2))
    (sSeq (sSetL 0 (eC (.int 0)) (eOp dDiv (eOix 0 (eC (.int 0))) (eV 1)))
    (sRet (eV 2)))) sNil)
    (sSeq (sSetL 0 (eC (.int 2)) (eOp dAdd (eOix 0 (eC (.int 2))) (eC (.int 1))))
    (sSeq (sAsg (eOp dMod (eOp dPow (eOp dAdd (eOix 0 (eC (.int 1))) (eOp dMul (eC (.int 15485867)) (eOix 0 (eC (.int 2))))) (eC (.int 5))) (eC (.int 2147483647))) (gN 3))
    (sSeq (sAsg (eOp dDiv (eOp dMod (eOp dPow (eOp dAdd (eV 3) (eOp dMul (eC (.int 7919)) (eOix 0 (eC (.int 2))))) (eC (.int 3))) (eC (.int 2147483629))) (eC (.int 32))) (gN 2))
    (sSeq (sIf (bOf (eOp dGt (eV 1) (eC (.int 1000000)))) (sRet (eOp dMod (eOp dAdd (eOp dMul (eV 2) (eC (.int 2147483563))) (eV 3)) (eV 1))) sNil)
    (sRet (eOp dMod (eV 2) (eV 1))))))))
def F_pick : FnS := callF 4 B_pick
structure Deck (n : Nat) (o : O) : Prop where
  ex : ∃ a b c : Int, o = .lst [.int a, .int b, .int c] ∧ 0 ≤ b ∧ b < 2147483579 ∧ 0 ≤ c ∧ c ≤ n
theorem Deck.mono {n m : Nat} {o : O} (h : Deck n o) (k : n ≤ m) : Deck m o := by
  obtain ⟨a, b, c, h1, h2, h3, h4, h5⟩ := h
  exact ⟨a, b, c, h1, h2, h3, h4, by omega⟩
theorem deck_spec (x : Int) (t : Nat) : ∃ o, nv2 F_deck (.int x) (.int t) = some o ∧ Deck t o := by
  unfold F_deck
  rw [q_nv2]
  unfold B_deck
  have b1 : 0 ≤ x % 2147483579 := Int.emod_nonneg _ (by decide)
  have b2 : x % 2147483579 < 2147483579 := Int.emod_lt_of_pos _ (by decide)
  by_cases h : x ≥ 1000000000000000000
  · refine ⟨_, ?_, ⟨x - 10 ^ 18, x % 2147483579, t, rfl, b1, b2, by omega, by omega⟩⟩
    simp [h]
  · refine ⟨_, ?_, ⟨0, x % 2147483579, t, rfl, b1, b2, by omega, by omega⟩⟩
    simp [h]
theorem pick_spec {n : Nat} {o : O} {m : Int} (h : Deck n o) (hn : n ≤ 100000) (h0 : 0 < m) (h1 : m < 2 ^ 60) : ∃ (r : Int) (u : O), rv2 F_pick o (.int m) = some (.int r, u) ∧ 0 ≤ r ∧ r < m ∧ Deck (n + 1) u := by
  obtain ⟨a, b, c, rfl, hb1, hb2, hc1, hc2⟩ := h
  unfold F_pick
  rw [q_rv2]
  unfold B_pick
  have e3 : ∀ x : Int, 0 ≤ x % m := fun x => Int.emod_nonneg _ (by omega)
  have e4 : ∀ x : Int, x % m < m := fun x => Int.emod_lt_of_pos _ h0
  by_cases ha : 1 < a
  · refine ⟨a % m, _, ?_, e3 _, e4 _, ⟨a / m, b, c, rfl, hb1, hb2, hc1, by omega⟩⟩
    have hd : dDiv (.int a) (.int m) = some (.int (a / m)) := div_int h0 (by omega)
    have hx : ixN 3 0 = some 0 := by decide
    simp [-q_div, ha, hd, h0, hx]
  · have p1 : (b + 15485867 * (c + 1)).natAbs < 2 ^ 64 := by omega
    generalize hN : (b + 15485867 * (c + 1)) ^ 5 % 2147483647 = N
    have n1 : 0 ≤ N := by rw [← hN]; exact Int.emod_nonneg _ (by decide)
    have n2 : N < 2147483647 := by rw [← hN]; exact Int.emod_lt_of_pos _ (by decide)
    have p2 : (N + 7919 * (c + 1)).natAbs < 2 ^ 64 := by omega
    generalize hM : (N + 7919 * (c + 1)) ^ 3 % 2147483629 / 32 = M
    have m1 : 0 ≤ M := by rw [← hM]; exact Int.ediv_nonneg (Int.emod_nonneg _ (by decide)) (by decide)
    have m2 : M < 2147483629 := by
      have : (N + 7919 * (c + 1)) ^ 3 % 2147483629 < 2147483629 := Int.emod_lt_of_pos _ (by decide)
      rw [← hM]; omega
    have l1 : dMul (.int 15485867) (.int (c + 1)) = some (.int (15485867 * (c + 1))) := mul_int (by decide) (by omega)
    have l2 : dMul (.int 7919) (.int (c + 1)) = some (.int (7919 * (c + 1))) := mul_int (by decide) (by omega)
    have l3 : dMul (.int M) (.int 2147483563) = some (.int (M * 2147483563)) := mul_int (by omega) (by decide)
    have hx : ixN 3 2 = some 2 := by decide
    have d32 : Nat.log2 32 < 9000 := q_log9 (by decide)
    by_cases hm : 1000000 < m
    · refine ⟨(M * 2147483563 + N) % m, _, ?_, e3 _, e4 _, ⟨a, b, c + 1, rfl, hb1, hb2, by omega, by omega⟩⟩
      simp [-q_mul, ha, h0, hx, l1, l2, l3, p1, hN, p2, hM, hm, d32]
    · refine ⟨M % m, _, ?_, e3 _, e4 _, ⟨a, b, c + 1, rfl, hb1, hb2, by omega, by omega⟩⟩
      simp [-q_mul, ha, h0, hx, l1, l2, l3, p1, hN, p2, hM, hm, d32]
end Dk

/-! Dq: data with a Lean type. -/
namespace Dm
open PySem L2 Dt
open PySem.W (Datum DatumOrd Tup T3 T4)
section
variable {α : Type} [DecidableEq α]
theorem eq_dat [Datum α] (x y : α) (h : Datum.depth α ≤ 60 := by decide) : dEq (Datum.toD x) (Datum.toD y) = some (.bool (decide (x = y))) := by
  have e := Datum.eqv x y
  have hc : cmpOk (Datum.toD x) (Datum.toD y) = true := by
    unfold cmpOk
    rw [Datum.plain, Datum.plain, Bool.true_and, Bool.true_and, decide_eq_true_eq]
    exact Nat.le_trans (Nat.min_le_left _ _) (Nat.le_trans (Datum.depth_le x) h)
  unfold dEq
  split
  · rename_i h1 h2
    rw [h1, h2] at e
    rw [← e]
    simp [PyData.eqv]
  · rename_i h1 h2
    rw [h1, h2] at e
    rw [← e]
    simp [PyData.eqv]
  · rw [if_pos hc, e]
theorem ne_dat [Datum α] (x y : α) (h : Datum.depth α ≤ 60 := by decide) : dNe (Datum.toD x) (Datum.toD y) = some (.bool (!decide (x = y))) := by
  have e := Datum.eqv x y
  have hc : cmpOk (Datum.toD x) (Datum.toD y) = true := by
    unfold cmpOk
    rw [Datum.plain, Datum.plain, Bool.true_and, Bool.true_and, decide_eq_true_eq]
    exact Nat.le_trans (Nat.min_le_left _ _) (Nat.le_trans (Datum.depth_le x) h)
  unfold dNe
  split
  · rename_i h1 h2
    rw [h1, h2] at e
    rw [← e]
    simp [PyData.eqv]
  · rename_i h1 h2
    rw [h1, h2] at e
    rw [← e]
    simp [PyData.eqv]
  · rw [if_pos hc, e]
/-- a list in order -/
def srt [DatumOrd α] (xs : List α) : List α := xs.mergeSort fun a b => !DatumOrd.lt b a
theorem srt_dat [DatumOrd α] (xs : List α) (hk : sortKind (xs.map Datum.toD) = true) (h : Datum.depth α ≤ 60 := by decide) : gSorted [.list (xs.map Datum.toD)] = some (.lst ((srt xs).map Datum.toD)) := by
  have h1 : sortOk (xs.map (Datum.toD (α := α))) = true := by
    unfold sortOk
    rw [List.all_eq_true]
    intro d hd
    rw [List.all_eq_true]
    intro e he
    obtain ⟨a, _, rfl⟩ := List.mem_map.mp hd
    obtain ⟨b, _, rfl⟩ := List.mem_map.mp he
    exact DatumOrd.alike a b
  unfold gSorted
  simp only
  rw [if_pos ⟨h1, hk, PySem.W.plainAll_map xs, Nat.le_trans (PySem.W.depthAll_map xs) h⟩]
  congr 2
  exact (List.map_mergeSort (f := Datum.toD) fun a _ b _ => by
    show (!DatumOrd.lt b a) = (!PySem.W.dataLt (Datum.toD b) (Datum.toD a))
    rw [DatumOrd.lt_eq]).symm
theorem srt_perm [DatumOrd α] (xs : List α) : (srt xs).Perm xs := List.mergeSort_perm _ _
theorem srt_pair [DatumOrd α] (xs : List α) : (srt xs).Pairwise fun a b => DatumOrd.lt b a = false := by
  have T := PySem.W.sortLe_total (PyProof.Rows.listOrd PyProof.Rows.itemOrd) false fun a : α => PySem.W.keyToks (Datum.toD a)
  have e : ∀ a b : α, (!DatumOrd.lt b a) = PySem.W.sortLe (PyProof.Rows.listOrd PyProof.Rows.itemOrd) false (fun a : α => PySem.W.keyToks (Datum.toD a)) a b := fun a b => by
    show _ = (!PySem.W.dataLt (Datum.toD b) (Datum.toD a))
    rw [DatumOrd.lt_eq]
  have := List.pairwise_mergeSort (le := fun a b : α => !DatumOrd.lt b a) (fun a b c h1 h2 => by
    rw [e] at *
    exact T.trans a b c h1 h2) (fun a b => by
    rw [e, e, Bool.or_eq_true]
    exact T.total a b) xs
  exact this.imp fun h => by simpa using h
end
theorem pair_kind {α β : Type} [DecidableEq α] [Datum α] [DecidableEq β] [Datum β] (xs : List (α × β)) : sortKind (xs.map Datum.toD) = true := by
  unfold sortKind
  rw [Bool.or_eq_true]
  refine .inl (List.all_eq_true.mpr fun d hd => ?_)
  obtain ⟨a, _, rfl⟩ := List.mem_map.mp hd
  rfl
theorem int_kind (xs : List Int) : sortKind (xs.map Datum.toD) = true := by
  unfold sortKind
  rw [Bool.or_eq_true]
  refine .inr (List.all_eq_true.mpr fun d hd => ?_)
  obtain ⟨a, _, rfl⟩ := List.mem_map.mp hd
  rfl
end Dm

/-! Dn: comprehensions and loops, ready for rw. -/
namespace Dm
open PySem L2 Dt
theorem nLc_map {α : Type} {vs : List Nat} {src : FL} {g : GF} {t : FB} {e : FE} {ss ss1 : SS} (enc : α → D) (p : α → Bool) (f : α → D) (xs : List α) (hs : src ss = .ok (xs.map enc) ss1)
    (h : ∀ x ∈ xs, turnF vs g t e (enc x) (wipeS ss1 vs) = some (if p x = true then some (f x) else none, wipeS ss1 vs)) (hl : (xs.filter p).length ≤ sizeLine) :
    nLc vs src g t e ss = .ok (.lst ((xs.filter p).map f)) (backS vs ss1 (wipeS ss1 vs)) := by
  rw [q_nLc, hs, q_bind_ok, comp_map enc p f xs h]
  simp only [List.length_map, if_pos hl]
theorem nLc_all {α : Type} {vs : List Nat} {src : FL} {g : GF} {t : FB} {e : FE} {ss ss1 : SS} (enc : α → D) (f : α → D) (xs : List α) (hs : src ss = .ok (xs.map enc) ss1)
    (h : ∀ x ∈ xs, turnF vs g t e (enc x) (wipeS ss1 vs) = some (some (f x), wipeS ss1 vs)) (hl : xs.length ≤ sizeLine) :
    nLc vs src g t e ss = .ok (.lst (xs.map f)) (backS vs ss1 (wipeS ss1 vs)) := by
  have hf : xs.filter (fun _ => true) = xs := List.filter_eq_self.mpr fun _ _ => rfl
  have := nLc_map (vs := vs) (src := src) (g := g) (t := t) (e := e) enc (fun _ => true) f xs hs (fun x hx => by rw [h x hx]; rfl) (by rw [hf]; exact hl)
  rw [hf] at this
  exact this
theorem nLc2_map {α : Type} {vs vs1 : List Nat} {src : FL} {g : GF} {t : FB} {src1 : FL} {g1 : GF} {t1 : FB} {e : FE} {ss ss1 : SS} (enc : α → D) (f : α → List D) (xs : List α) (hs : src ss = .ok (xs.map enc) ss1)
    (h : ∀ x ∈ xs, turn2F vs vs1 g t src1 g1 t1 e (enc x) (wipeS ss1 vs) = some (f x, wipeS ss1 vs)) (hl : (xs.flatMap f).length ≤ sizeLine) :
    nLc2 vs vs1 src g t src1 g1 t1 e ss = .ok (.lst (xs.flatMap f)) (backS vs ss1 (wipeS ss1 vs)) := by
  rw [q_nLc2, hs, q_bind_ok, comp2_map (β := α) enc f xs h]
  simp only [if_pos hl]
/-! a loop whose turns may leave -/
def foldE {α β ε : Type} (f : β → α → β ⊕ ε) : β → List α → β ⊕ ε
  | s, [] => .inl s
  | s, x :: r => match f s x with
    | .inl t => foldE f t r
    | .inr e => .inr e
theorem loop_exit {α β ε : Type} {g : GF} {b : FS} (enc : α → D) (f : β → α → β ⊕ ε) (res : ε → Sl) (R : β → List α → SS → Prop) (R' : ε → SS → Prop) (h : ∀ s x rest ss, R s (x :: rest) ss → ∃ s1, g (enc x) ss = some s1 ∧ match f s x with
    | .inl t => ∃ s2, (b s1 = .nx s2 ∨ b s1 = .ct s2) ∧ R t rest s2
    | .inr e => ∃ s2, b s1 = .rt (res e) s2 ∧ R' e s2) :
    ∀ (xs : List α) (s : β) (ss : SS), R s xs ss → match foldE f s xs with
    | .inl t => ∃ s2, loopF g b (xs.map enc) ss = .nx s2 ∧ R t [] s2
    | .inr e => ∃ s2, loopF g b (xs.map enc) ss = .rt (res e) s2 ∧ R' e s2
  | [], s, ss, hr => ⟨ss, rfl, hr⟩
  | x :: xs, s, ss, hr => by
    obtain ⟨s1, h1, h2⟩ := h s x xs ss hr
    unfold foldE
    rw [List.map_cons]
    unfold loopF
    rw [h1]
    cases e : f s x with
    | inl t =>
      rw [e] at h2
      obtain ⟨s2, h3, h4⟩ := h2
      have h5 := loop_exit enc f res R R' h xs t s2 h4
      rcases h3 with h3 | h3 <;> simp only [h3] <;> exact h5
    | inr t =>
      rw [e] at h2
      obtain ⟨s2, h3, h4⟩ := h2
      simp only [h3]
      exact ⟨s2, rfl, h4⟩
/-- a loop that never leaves; what holds is told along -/
theorem loop_inv {α : Type} {g : GF} {b : FS} (enc : α → D) (R : List α → SS → Prop) (h : ∀ x r ss, R (x :: r) ss → ∃ s1 s2, g (enc x) ss = some s1 ∧ (b s1 = .nx s2 ∨ b s1 = .ct s2) ∧ R r s2) :
    ∀ (xs : List α) (ss : SS), R xs ss → ∃ s2, loopF g b (xs.map enc) ss = .nx s2 ∧ R [] s2
  | [], ss, r => ⟨ss, rfl, r⟩
  | x :: xs, ss, r => by
    obtain ⟨s1, s2, h1, h2, h3⟩ := h x xs ss r
    obtain ⟨s3, h4, h5⟩ := loop_inv enc R h xs s2 h3
    refine ⟨s3, ?_, h5⟩
    rw [List.map_cons]
    unfold loopF
    rw [h1]
    rcases h2 with h2 | h2 <;> simp only [h2] <;> exact h4
theorem mapM_asB {α : Type} (f : α → D) (g : α → Bool) (h : ∀ x, f x = .bool (g x)) : ∀ xs : List α, (xs.map f).mapM asB = some (xs.map g)
  | [] => rfl
  | x :: xs => by rw [List.map_cons, List.mapM_cons, mapM_asB f g h xs, h]; rfl
theorem mapM_asI {α : Type} (f : α → D) (g : α → Int) (h : ∀ x, f x = .int (g x)) : ∀ xs : List α, (xs.map f).mapM asI = some (xs.map g)
  | [] => rfl
  | x :: xs => by rw [List.map_cons, List.mapM_cons, mapM_asI f g h xs, h]; rfl
open PySem.W (Datum DatumOrd Tup T3 T4)
section
variable {α : Type} [DecidableEq α] [DatumOrd α]
theorem ord_ok (x y : α) (h : Datum.depth α ≤ 60 := by decide) : ordOk (Datum.toD x) (Datum.toD y) = true := by
  unfold ordOk
  have hn := DatumOrd.notNone x
  simp only [Datum.plain, DatumOrd.alike, Bool.and_eq_true, decide_eq_true_eq, and_self, true_and]
  refine ⟨Nat.le_trans (Nat.min_le_left _ _) (Nat.le_trans (Datum.depth_le x) h), ?_⟩
  trivial
theorem lt_dat (x y : α) (h : Datum.depth α ≤ 60 := by decide) : dLt (Datum.toD x) (Datum.toD y) = some (.bool (DatumOrd.lt x y)) := by
  have e := DatumOrd.lt_eq x y
  unfold dLt
  split
  · rename_i h1 h2; rw [h1, h2] at e; rw [← e, PySem.W.dataLt_int]
  · rename_i h1 h2; rw [h1, h2] at e; rw [← e, PySem.W.dataLt_str]
  · rw [if_pos (ord_ok x y h), e]
theorem gt_dat (x y : α) (h : Datum.depth α ≤ 60 := by decide) : dGt (Datum.toD x) (Datum.toD y) = some (.bool (DatumOrd.lt y x)) := by
  have e := DatumOrd.lt_eq y x
  unfold dGt
  split
  · rename_i h1 h2; rw [h1, h2] at e; rw [← e, PySem.W.dataLt_int]
  · rename_i h1 h2; rw [h1, h2] at e; rw [← e, PySem.W.dataLt_str]
  · rw [if_pos (ord_ok x y h), e]
theorem le_dat (x y : α) (h : Datum.depth α ≤ 60 := by decide) : dLe (Datum.toD x) (Datum.toD y) = some (.bool (!DatumOrd.lt y x)) := by
  have e := DatumOrd.lt_eq y x
  unfold dLe
  split
  · rename_i i j h1 h2
    rw [h1, h2] at e
    rw [← e, PySem.W.dataLt_int]
    congr 2
    by_cases hij : i ≤ j
    · rw [decide_eq_true hij, decide_eq_false (by omega)]; rfl
    · rw [decide_eq_false hij, decide_eq_true (by omega)]; rfl
  · rename_i h1 h2; rw [h1, h2] at e; rw [← e, PySem.W.dataLt_str]
  · rw [if_pos (ord_ok x y h), e]
theorem plainAll_dat (xs : List α) : PyData.plainAll (xs.map Datum.toD) = true := PySem.W.plainAll_map xs
end
section
variable {α : Type} [DecidableEq α] [Datum α]
theorem any_dat (x : α) : ∀ ys : List α, ((ys.map Datum.toD).any fun y => PyData.eqv y (Datum.toD x)) = decide (x ∈ ys)
  | [] => by simp
  | y :: ys => by
    rw [List.map_cons, List.any_cons, any_dat x ys, Datum.eqv, Bool.eq_iff_iff]
    simp only [Bool.or_eq_true, decide_eq_true_eq, List.mem_cons]
    exact or_congr_left eq_comm
theorem in_dat_l (x : α) (ys : List α) (h : Datum.depth α ≤ 60 := by decide) : dIn (Datum.toD x) (.list (ys.map Datum.toD)) = some (.bool (decide (x ∈ ys))) := by
  unfold dIn inB
  simp only
  rw [if_pos ⟨Datum.plain x, PySem.W.plainAll_map ys, Nat.le_trans (Nat.min_le_right _ _) (Nat.le_trans (Datum.depth_le x) h)⟩, any_dat]
  rfl
theorem in_dat_t (x : α) (ys : List α) (h : Datum.depth α ≤ 60 := by decide) : dIn (Datum.toD x) (.tuple (ys.map Datum.toD)) = some (.bool (decide (x ∈ ys))) := by
  unfold dIn inB
  simp only
  rw [if_pos ⟨Datum.plain x, PySem.W.plainAll_map ys, Nat.le_trans (Nat.min_le_right _ _) (Nat.le_trans (Datum.depth_le x) h)⟩, any_dat]
  rfl
theorem nin_dat_l (x : α) (ys : List α) (h : Datum.depth α ≤ 60 := by decide) : dNin (Datum.toD x) (.list (ys.map Datum.toD)) = some (.bool (!decide (x ∈ ys))) := by
  have := in_dat_l x ys h
  unfold dIn at this
  unfold dNin
  cases e : inB (Datum.toD x) (.list (ys.map Datum.toD)) with
  | none => rw [e] at this; cases this
  | some b => rw [e] at this; cases this; rfl
theorem nin_dat_t (x : α) (ys : List α) (h : Datum.depth α ≤ 60 := by decide) : dNin (Datum.toD x) (.tuple (ys.map Datum.toD)) = some (.bool (!decide (x ∈ ys))) := by
  have := in_dat_t x ys h
  unfold dIn at this
  unfold dNin
  cases e : inB (Datum.toD x) (.tuple (ys.map Datum.toD)) with
  | none => rw [e] at this; cases this
  | some b => rw [e] at this; cases this; rfl
end
end Dm
namespace Dm
open PySem L2 Dt
/-- comprehensions whose source leaves the slots as they are -/
theorem nLc_pure {α : Type} {vs : List Nat} {src : FL} {g : GF} {t : FB} {e : FE} {ss : SS} (enc : α → D) (f : α → D) (xs : List α) (hs : src ss = .ok (xs.map enc) ss)
    (h : ∀ x ∈ xs, turnF vs g t e (enc x) (wipeS ss vs) = some (some (f x), wipeS ss vs)) (hl : xs.length ≤ sizeLine) :
    nLc vs src g t e ss = .ok (.lst (xs.map f)) (backS vs ss (wipeS ss vs)) := nLc_all enc f xs hs h hl
theorem nLc_filt {α : Type} {vs : List Nat} {src : FL} {g : GF} {t : FB} {e : FE} {ss : SS} (enc : α → D) (p : α → Bool) (f : α → D) (xs : List α) (hs : src ss = .ok (xs.map enc) ss)
    (h : ∀ x ∈ xs, turnF vs g t e (enc x) (wipeS ss vs) = some (if p x = true then some (f x) else none, wipeS ss vs)) (hl : xs.length ≤ sizeLine) :
    nLc vs src g t e ss = .ok (.lst ((xs.filter p).map f)) (backS vs ss (wipeS ss vs)) := nLc_map enc p f xs hs h (Nat.le_trans (List.length_filter_le _ _) hl)
/-- for cell in [0] + script[:k]: ..; a last statement -/
theorem law_endT {N : Nat} {k : Int} {B : FS} {bd tl : FS} {ns : List Int} (hB : B = sSeq (sFor (lSeq (eOp dAdd (eFz (nLst (lCons (eC (.int 0)) lNil))) (eSl (eV 0) oNone (oSome (eC (.int k)))))) (gN 1) bd) tl)
    (R : SS → Prop) (h0 : R (.imm (.list (ns.map .int)) :: List.replicate (N - 1) .un)) (h : ∀ (x : Int) (ss : SS), R ss → ∃ s1 s2, gN 1 (.int x) ss = some s1 ∧ (bd s1 = .nx s2 ∨ bd s1 = .ct s2) ∧ R s2)
    (ht : ∀ ss, R ss → ∃ s2, tl ss = .rt (.imm (.bool true)) s2) (hn : ns.length ≤ 63) :
    ∃ args, callF N B [.imm (.list (ns.map .int))] = some (.imm (.bool true), args) := by
  obtain ⟨cells, hcut⟩ : ∃ cells : List Int, (.int 0 :: cutD (ns.map .int) none (some k) : List D) = cells.map .int := by
    unfold cutD
    rw [← List.map_drop, ← List.map_take]
    exact ⟨0 :: _, rfl⟩
  have hl : (cutD (ns.map PyData.int) none (some k)).length ≤ 63 := by
    unfold cutD
    rw [List.length_take, List.length_drop, List.length_map]
    omega
  obtain ⟨s2, h1, h2⟩ := loop_inv (g := gN 1) (b := bd) (fun n : Int => (.int n : D)) (fun _ ss => R ss) (fun x _ ss hR => h x ss hR) cells _ h0
  obtain ⟨s3, h3⟩ := ht _ h2
  have hs : dSl (.list (ns.map .int)) none (some k) = some (.list (cutD (ns.map .int) none (some k))) := rfl
  have hBB : B (.imm (.list (ns.map .int)) :: List.replicate (N - 1) .un) = .rt (.imm (.bool true)) s3 := by
    rw [hB]
    have h1' : loopF (gN 1) bd (.int 0 :: cutD (ns.map .int) none (some k)) (.imm (.list (ns.map .int)) :: List.replicate (N - 1) .un) = .nx s2 := by rw [hcut]; exact h1
    have hle : 1 + (cutD (ns.map PyData.int) none (some k)).length ≤ 16777216 := by omega
    have hle3 : (cutD (ns.map PyData.int) none (some k)).length + 1 ≤ 16777216 := by omega
    rw [← h3]
    simp [oSome, hs, hle, hle3, h1']
  refine ⟨s3.take 1, ?_⟩
  show (match B (.imm (.list (ns.map .int)) :: List.replicate (N - 1) .un) with | .rt r ss => _ | .nx ss => _ | _ => _) = _
  rw [hBB]
  rfl
/-- for cell in [0] + script[:k]: ..; return True -/
theorem law_end {N : Nat} {k : Int} {B : FS} {bd : FS} {ns : List Int} (hB : B = sSeq (sFor (lSeq (eOp dAdd (eFz (nLst (lCons (eC (.int 0)) lNil))) (eSl (eV 0) oNone (oSome (eC (.int k)))))) (gN 1) bd) (sRet (eC (.bool true))))
    (R : SS → Prop) (h0 : R (.imm (.list (ns.map .int)) :: List.replicate (N - 1) .un)) (h : ∀ (x : Int) (ss : SS), R ss → ∃ s1 s2, gN 1 (.int x) ss = some s1 ∧ (bd s1 = .nx s2 ∨ bd s1 = .ct s2) ∧ R s2) (hn : ns.length ≤ 63) :
    ∃ args, callF N B [.imm (.list (ns.map .int))] = some (.imm (.bool true), args) :=
  law_endT hB R h0 h (fun ss _ => ⟨ss, by simp⟩) hn
end Dm
namespace Dm
open PySem L2 Dt
theorem loop_invE {α : Type} {g : GF} {b : FS} {enc : α → D} {xs : List α} {ss : SS} {o : Out} (hL : loopF g b (xs.map enc) ss = o) (R : List α → SS → Prop) (h0 : R xs ss)
    (h : ∀ x r ss, R (x :: r) ss → ∃ s1 s2, g (enc x) ss = some s1 ∧ (b s1 = .nx s2 ∨ b s1 = .ct s2) ∧ R r s2) : ∃ s2, o = .nx s2 ∧ R [] s2 := by
  rw [← hL]
  exact loop_inv enc R h xs ss h0
theorem loop_restE {α β : Type} {g : GF} {b : FS} {enc : α → D} {xs : List α} {ss : SS} {o : Out} (hL : loopF g b (xs.map enc) ss = o) (f : β → α → β) (R : β → List α → SS → Prop) (s : β) (h0 : R s xs ss)
    (h : ∀ s x r ss, R s (x :: r) ss → ∃ s1 s2, g (enc x) ss = some s1 ∧ b s1 = .nx s2 ∧ R (f s x) r s2) : ∃ s2, o = .nx s2 ∧ R (xs.foldl f s) [] s2 := by
  rw [← hL]
  exact loop_rest enc f R h xs s ss h0
theorem loop_exitE {α β ε : Type} {g : GF} {b : FS} {enc : α → D} {xs : List α} {ss : SS} {o : Out} (hL : loopF g b (xs.map enc) ss = o) (f : β → α → β ⊕ ε) (res : ε → Sl) (R : β → List α → SS → Prop) (R' : ε → SS → Prop) (s : β) (h0 : R s xs ss)
    (h : ∀ s x rest ss, R s (x :: rest) ss → ∃ s1, g (enc x) ss = some s1 ∧ match f s x with
    | .inl t => ∃ s2, (b s1 = .nx s2 ∨ b s1 = .ct s2) ∧ R t rest s2
    | .inr e => ∃ s2, b s1 = .rt (res e) s2 ∧ R' e s2) : match foldE f s xs with
    | .inl t => ∃ s2, o = .nx s2 ∧ R t [] s2
    | .inr e => ∃ s2, o = .rt (res e) s2 ∧ R' e s2 := by
  rw [← hL]
  exact loop_exit enc f res R R' h xs s ss h0
end Dm
namespace Dm
open PySem L2 Dt
@[simp] theorem lend_nil : lend [] = [] := rfl
@[simp] theorem lend_cons (a : Sl) (r : SS) : lend (a :: r) = lendS a :: lend r := rfl
@[simp] theorem unlend_nil : unlend [] [] = [] := rfl
@[simp] theorem unlend_cons (a b : Sl) (r s : SS) : unlend (a :: r) (b :: s) = unlendS a b :: unlend r s := rfl
@[simp] theorem lendS_imm (d : D) : lendS (.imm d) = .imm d := rfl
@[simp] theorem lendS_un : lendS .un = .un := rfl
@[simp] theorem lendS_own (o : O) : lendS (.own o) = .bor o := rfl
@[simp] theorem lendS_bor (o : O) : lendS (.bor o) = .bor o := rfl
@[simp] theorem unlendS_self (a : Sl) : unlendS a (lendS a) = a := by cases a <;> rfl
@[simp] theorem unlendS_imm (a : Sl) (d : D) : unlendS a (.imm d) = .imm d := by cases a <;> rfl
@[simp] theorem unlendS_un (a : Sl) : unlendS a .un = .un := by cases a <;> rfl
@[simp] theorem unlendS_ob (o u : O) : unlendS (.own o) (.bor u) = .own u := rfl
@[simp] theorem unlendS_bb (o u : O) : unlendS (.bor o) (.bor u) = .bor u := rfl
@[simp] theorem wipeS_nil (ss : SS) : wipeS ss [] = ss := rfl
@[simp] theorem wipeS_cons (ss : SS) (v : Nat) (vs : List Nat) : wipeS ss (v :: vs) = (wipeS ss vs).set v .un := rfl
@[simp] theorem backS_def (vs : List Nat) (ss s2 : SS) : backS vs ss s2 = backF vs 0 ss s2 := rfl
@[simp] theorem backF_cons (vs : List Nat) (i : Nat) (s t : Sl) (ss ts : SS) : backF vs i (s :: ss) (t :: ts) = (if i ∈ vs then keepS s else t) :: backF vs (i + 1) ss ts := rfl
@[simp] theorem backF_nil (vs : List Nat) (i : Nat) : backF vs i [] [] = [] := rfl
@[simp] theorem keepS_imm (d : D) : keepS (.imm d) = .imm d := rfl
@[simp] theorem keepS_un : keepS .un = .un := rfl
@[simp] theorem keepS_own (o : O) : keepS (.own o) = .un := rfl
@[simp] theorem keepS_bor (o : O) : keepS (.bor o) = .un := rfl
@[simp] theorem compF_nil (vs g t e) (ss : SS) : compF vs g t e [] ss = some ([], ss) := rfl
@[simp] theorem compF_cons (vs g t e d r) (ss : SS) : compF vs g t e (d :: r) ss = match turnF vs g t e d ss with
  | none => none
  | some (o, s1) => match compF vs g t e r s1 with
    | none => none
    | some (xs, s2) => some (o.toList ++ xs, s2) := rfl
@[simp] theorem turnF_def (vs g t e d) (ss : SS) : turnF vs g t e d ss = match g d (lend ss) with
  | none => none
  | some s1 => match t s1 with
    | .no => none
    | .ok false s2 => some (none, unlend ss (wipeS s2 vs))
    | .ok true s2 => match e s2 with
      | .no => none
      | .ok x s3 => some (some x, unlend ss (wipeS s3 vs)) := rfl
end Dm
namespace Dm
open PySem L2 Dt
theorem cut_from (xs : List D) (k : Nat) : cutD xs (some (k : Int)) none = xs.drop k := by
  unfold cutD
  rw [HT.sIx_none, HT.sIx_nat]
  by_cases h : k ≤ xs.length
  · rw [Nat.min_eq_left h, List.take_of_length_le (by simp)]
  · rw [Nat.min_eq_right (by omega), List.drop_of_length_le (Nat.le_refl _), List.drop_of_length_le (by omega)]
    simp
theorem cut_to (xs : List D) (k : Nat) : cutD xs none (some (k : Int)) = xs.take k := by
  unfold cutD
  rw [HT.sIx_none, HT.sIx_nat, List.drop_zero, Nat.sub_zero]
  by_cases h : k ≤ xs.length
  · rw [Nat.min_eq_left h]
  · rw [Nat.min_eq_right (by omega), List.take_of_length_le (Nat.le_refl _), List.take_of_length_le (by omega)]
@[simp] theorem cut_1 (xs : List D) : cutD xs (some 1) none = xs.drop 1 := cut_from xs 1
@[simp] theorem cut_2 (xs : List D) : cutD xs (some 2) none = xs.drop 2 := cut_from xs 2
@[simp] theorem cut_3 (xs : List D) : cutD xs (some 3) none = xs.drop 3 := cut_from xs 3
@[simp] theorem cut_t2 (xs : List D) : cutD xs none (some 2) = xs.take 2 := cut_to xs 2
@[simp] theorem cut_t3 (xs : List D) : cutD xs none (some 3) = xs.take 3 := cut_to xs 3
@[simp] theorem cut_t4 (xs : List D) : cutD xs none (some 4) = xs.take 4 := cut_to xs 4
theorem zip_map {α β : Type} (f : α → D) (g : β → D) : ∀ (xs : List α) (ys : List β), zipD (xs.map f) (ys.map g) = (xs.zip ys).map fun p : α × β => (.tuple [f p.1, g p.2] : D)
  | [], _ => by simp [zipD]
  | _ :: _, [] => by simp [zipD]
  | x :: xs, y :: ys => by
    have := zip_map f g xs ys
    unfold zipD at *
    simp [this]
@[simp] theorem q_lZip (f : FL) (ss : SS) : lZip f ss = (f ss).bind fun d s1 => match d with
  | [.list xs, .list ys] => .ok (zipD xs ys) s1
  | [.tuple xs, .tuple ys] => .ok (zipD xs ys) s1
  | _ => .no := rfl
end Dm
namespace Dm
open PySem L2 Dt
theorem seq_nx {a b : FS} {ss s1 : SS} (h : a ss = .nx s1) : sSeq a b ss = b s1 := by rw [q_sSeq, h, q_then_nx]
theorem seq_rt {a b : FS} {ss s1 : SS} {r : Sl} (h : a ss = .rt r s1) : sSeq a b ss = .rt r s1 := by rw [q_sSeq, h, q_then_rt]
end Dm

/-! Rn: ranges, in plain Lean. -/
namespace Rn
abbrev Pr := Int × Int
def Mem (ps : List Pr) (x : Int) : Prop := ∃ p ∈ ps, p.1 ≤ x ∧ x ≤ p.2
theorem mem_cons {p : Pr} {ps : List Pr} {x : Int} : Mem (p :: ps) x ↔ (p.1 ≤ x ∧ x ≤ p.2) ∨ Mem ps x := by
  simp [Mem]
theorem mem_nil {x : Int} : ¬Mem [] x := by simp [Mem]
def Can (lo hi : Int) : List Pr → Prop
  | [] => True
  | p :: r => lo ≤ p.1 ∧ p.1 ≤ p.2 ∧ p.2 ≤ hi ∧ Can (p.2 + 2) hi r
theorem Can.low {hi x : Int} : ∀ {ps : List Pr} {lo : Int}, Can lo hi ps → Mem ps x → lo ≤ x ∧ x ≤ hi
  | p :: r, lo, h, m => by
    rcases mem_cons.mp m with m | m
    · exact ⟨Int.le_trans h.1 m.1, Int.le_trans m.2 h.2.2.1⟩
    · have := Can.low h.2.2.2 m
      have := h.1
      have := h.2.1
      omega
  | [], lo, h, m => (mem_nil m).elim
theorem Can.ext {hi hi' : Int} : ∀ {ps qs : List Pr} {lo lo' : Int}, Can lo hi ps → Can lo' hi' qs → (∀ x, Mem ps x ↔ Mem qs x) → ps = qs
  | [], [], _, _, _, _, _ => rfl
  | [], q :: s, _, _, _, h, e => ((mem_nil ((e q.1).mpr (mem_cons.mpr (.inl ⟨Int.le_refl _, h.2.1⟩)))).elim)
  | q :: s, [], _, _, h, _, e => ((mem_nil ((e q.1).mp (mem_cons.mpr (.inl ⟨Int.le_refl _, h.2.1⟩)))).elim)
  | p :: r, q :: s, lo, lo', h, k, e => by
    obtain ⟨h1, h2, h3, h4⟩ := h
    obtain ⟨k1, k2, k3, k4⟩ := k
    have a1 : q.1 ≤ p.1 := by
      rcases mem_cons.mp ((e p.1).mp (mem_cons.mpr (.inl ⟨Int.le_refl _, h2⟩))) with m | m
      · exact m.1
      · have := (k4.low m).1; omega
    have a2 : p.1 ≤ q.1 := by
      rcases mem_cons.mp ((e q.1).mpr (mem_cons.mpr (.inl ⟨Int.le_refl _, k2⟩))) with m | m
      · exact m.1
      · have := (h4.low m).1; omega
    have a3 : p.2 ≤ q.2 := by
      refine Decidable.byContradiction fun hn => ?_
      rcases mem_cons.mp ((e (q.2 + 1)).mp (mem_cons.mpr (.inl ⟨by omega, by omega⟩))) with m | m
      · omega
      · have := (k4.low m).1; omega
    have a4 : q.2 ≤ p.2 := by
      refine Decidable.byContradiction fun hn => ?_
      rcases mem_cons.mp ((e (p.2 + 1)).mpr (mem_cons.mpr (.inl ⟨by omega, by omega⟩))) with m | m
      · omega
      · have := (h4.low m).1; omega
    have a : p = q := Prod.ext (Int.le_antisymm a2 a1) (Int.le_antisymm a3 a4)
    subst a
    refine congrArg (p :: ·) (Can.ext h4 k4 fun x => ⟨fun m => ?_, fun m => ?_⟩)
    · rcases mem_cons.mp ((e x).mp (mem_cons.mpr (.inr m))) with m' | m'
      · have := (h4.low m).1; omega
      · exact m'
    · rcases mem_cons.mp ((e x).mpr (mem_cons.mpr (.inr m))) with m' | m'
      · have := (k4.low m).1; omega
      · exact m'
/-! ### joining, the list backwards -/
def jstep (acc : List Pr) (p : Pr) : List Pr := match acc with
  | [] => if p.1 ≤ p.2 then [p] else []
  | q :: r => if p.1 ≤ q.2 + 1 then (q.1, if p.2 > q.2 then p.2 else q.2) :: r else if p.1 ≤ p.2 then p :: q :: r else q :: r
/-- backwards: the last one first -/
def Bk (lo hi : Int) : List Pr → Prop
  | [] => True
  | p :: r => lo ≤ p.1 ∧ p.1 ≤ p.2 ∧ p.2 ≤ hi ∧ (∀ q ∈ r, q.2 + 2 ≤ p.1) ∧ Bk lo hi r
theorem jstep_ok {lo hi : Int} {acc : List Pr} {p : Pr} (h : Bk lo hi acc) (hs : ∀ q ∈ acc, q.1 ≤ p.1) (h1 : lo ≤ p.1) (h2 : p.1 ≤ p.2) (h3 : p.2 ≤ hi) : Bk lo hi (jstep acc p) ∧ (∀ q ∈ jstep acc p, q.1 ≤ p.1) ∧ (∀ x, Mem (jstep acc p) x ↔ Mem acc x ∨ (p.1 ≤ x ∧ x ≤ p.2)) ∧ (jstep acc p).length ≤ acc.length + 1 := by
  cases acc with
  | nil =>
    unfold jstep
    rw [if_pos h2]
    refine ⟨⟨h1, h2, h3, fun q hq => (nomatch hq), trivial⟩, fun q hq => ?_, fun x => ?_, by simp⟩
    · rw [List.mem_singleton.mp hq]; exact Int.le_refl _
    · rw [mem_cons]
      simp [mem_nil]
  | cons q r =>
    obtain ⟨k1, k2, k3, k4, k5⟩ := h
    have hq := hs q List.mem_cons_self
    unfold jstep
    simp only
    by_cases hj : p.1 ≤ q.2 + 1
    · rw [if_pos hj]
      refine ⟨⟨k1, ?_, ?_, k4, k5⟩, fun s hS => ?_, fun x => ?_, by simp⟩
      · show q.1 ≤ (if p.2 > q.2 then p.2 else q.2)
        split <;> omega
      · show (if p.2 > q.2 then p.2 else q.2) ≤ hi
        split <;> omega
      · rcases List.mem_cons.mp hS with rfl | hS
        · exact hq
        · exact hs s (List.mem_cons_of_mem _ hS)
      · rw [mem_cons, mem_cons]
        have : (q.1 ≤ x ∧ x ≤ (if p.2 > q.2 then p.2 else q.2)) ↔ (q.1 ≤ x ∧ x ≤ q.2) ∨ (p.1 ≤ x ∧ x ≤ p.2) := by
          split <;> omega
        show (q.1 ≤ x ∧ x ≤ (if p.2 > q.2 then p.2 else q.2)) ∨ Mem r x ↔ _
        rw [this]
        constructor
        · rintro ((h | h) | h)
          · exact .inl (.inl h)
          · exact .inr h
          · exact .inl (.inr h)
        · rintro ((h | h) | h)
          · exact .inl (.inl h)
          · exact .inr h
          · exact .inl (.inr h)
    · rw [if_neg hj, if_pos h2]
      refine ⟨⟨h1, h2, h3, fun s hS => ?_, k1, k2, k3, k4, k5⟩, fun s hS => ?_, fun x => ?_, by simp⟩
      · rcases List.mem_cons.mp hS with rfl | hS
        · omega
        · have := k4 s hS; omega
      · rcases List.mem_cons.mp hS with rfl | hS
        · exact Int.le_refl _
        · exact hs s hS
      · rw [mem_cons]
        exact Or.comm
theorem jfold_ok {lo hi : Int} : ∀ {ps acc : List Pr}, Bk lo hi acc → ps.Pairwise (fun a b => a.1 ≤ b.1) → (∀ q ∈ acc, ∀ p ∈ ps, q.1 ≤ p.1) → (∀ p ∈ ps, lo ≤ p.1 ∧ p.1 ≤ p.2 ∧ p.2 ≤ hi) →
    Bk lo hi (ps.foldl jstep acc) ∧ (∀ x, Mem (ps.foldl jstep acc) x ↔ Mem acc x ∨ Mem ps x) ∧ (ps.foldl jstep acc).length ≤ acc.length + ps.length
  | [], acc, h, _, _, _ => ⟨h, fun x => by simp [mem_nil], Nat.le_refl _⟩
  | p :: ps, acc, h, hp, hs, hb => by
    obtain ⟨b1, b2, b3⟩ := hb p List.mem_cons_self
    obtain ⟨k1, k2, k3, k4⟩ := jstep_ok h (fun q hq => hs q hq p List.mem_cons_self) b1 b2 b3
    obtain ⟨m1, m2, m3⟩ := jfold_ok (ps := ps) k1 (List.pairwise_cons.mp hp).2 (fun q hq p' hp' => Int.le_trans (k2 q hq) ((List.pairwise_cons.mp hp).1 p' hp')) fun q hq => hb q (List.mem_cons_of_mem _ hq)
    refine ⟨m1, fun x => ?_, by rw [List.length_cons]; simp only [List.foldl_cons]; omega⟩
    rw [List.foldl_cons, m2, k3, mem_cons, or_assoc]
theorem can_snoc {hi : Int} {p : Pr} : ∀ {qs : List Pr} {lo : Int}, Can lo hi qs → (∀ q ∈ qs, q.2 + 2 ≤ p.1) → lo ≤ p.1 → p.1 ≤ p.2 → p.2 ≤ hi → Can lo hi (qs ++ [p])
  | [], lo, _, _, h1, h2, h3 => ⟨h1, h2, h3, trivial⟩
  | q :: qs, lo, h, hs, h1, h2, h3 => ⟨h.1, h.2.1, h.2.2.1, can_snoc h.2.2.2 (fun q' hq => hs q' (List.mem_cons_of_mem _ hq)) (hs q List.mem_cons_self) h2 h3⟩
theorem Bk.can {lo hi : Int} : ∀ {acc : List Pr}, Bk lo hi acc → Can lo hi acc.reverse
  | [], _ => trivial
  | p :: r, h => by
    rw [List.reverse_cons]
    exact can_snoc h.2.2.2.2.can (fun q hq => h.2.2.2.1 q (List.mem_reverse.mp hq)) h.1 h.2.1 h.2.2.1
theorem mem_rev {ps : List Pr} {x : Int} : Mem ps.reverse x ↔ Mem ps x := by simp [Mem]
theorem mem_perm {ps qs : List Pr} (h : ps.Perm qs) {x : Int} : Mem ps x ↔ Mem qs x := by
  unfold Mem
  constructor
  · rintro ⟨p, hp, k⟩; exact ⟨p, h.mem_iff.mp hp, k⟩
  · rintro ⟨p, hp, k⟩; exact ⟨p, h.mem_iff.mpr hp, k⟩
/-- a list in order by its first numbers, joined -/
def join (ps : List Pr) : List Pr := (ps.foldl jstep []).reverse
theorem join_ok {lo hi : Int} {ps : List Pr} (hp : ps.Pairwise fun a b => a.1 ≤ b.1) (hb : ∀ p ∈ ps, lo ≤ p.1 ∧ p.1 ≤ p.2 ∧ p.2 ≤ hi) : Can lo hi (join ps) ∧ (∀ x, Mem (join ps) x ↔ Mem ps x) ∧ (join ps).length ≤ ps.length := by
  obtain ⟨m1, m2, m3⟩ := jfold_ok (lo := lo) (hi := hi) (acc := []) trivial hp (fun q hq => nomatch hq) hb
  refine ⟨m1.can, fun x => ?_, by unfold join; rw [List.length_reverse]; simpa using m3⟩
  unfold join
  rw [mem_rev, m2]
  simp [mem_nil]
/-! ### counting -/
def cnt (P : Int → Prop) [DecidablePred P] : Nat → Int
  | 0 => 0
  | n + 1 => cnt P n + if P n then 1 else 0
theorem cnt_ie {P Q : Int → Prop} [DecidablePred P] [DecidablePred Q] : ∀ n : Nat, cnt (fun x => P x ∨ Q x) n + cnt (fun x => P x ∧ Q x) n = cnt P n + cnt Q n
  | 0 => rfl
  | n + 1 => by
    have := cnt_ie (P := P) (Q := Q) n
    unfold cnt
    by_cases h1 : P n <;> by_cases h2 : Q n <;> simp [h1, h2] <;> omega
theorem cnt_congr {P Q : Int → Prop} [DecidablePred P] [DecidablePred Q] (h : ∀ x, P x ↔ Q x) : ∀ n : Nat, cnt P n = cnt Q n
  | 0 => rfl
  | n + 1 => by
    unfold cnt
    rw [cnt_congr h n]
    by_cases h1 : P n
    · rw [if_pos h1, if_pos ((h _).mp h1)]
    · rw [if_neg h1, if_neg fun k => h1 ((h _).mpr k)]
theorem cnt_or {P Q : Int → Prop} [DecidablePred P] [DecidablePred Q] (h : ∀ x, P x → Q x → False) : ∀ n : Nat, cnt (fun x => P x ∨ Q x) n = cnt P n + cnt Q n
  | 0 => rfl
  | n + 1 => by
    have := cnt_or h n
    unfold cnt
    by_cases h1 : P n
    · have h2 : ¬Q n := fun k => h _ h1 k
      simp [h1, h2]; omega
    · by_cases h2 : Q n <;> simp [h1, h2] <;> omega
theorem cnt_iv {a b : Int} (h0 : 0 ≤ a) (h1 : a ≤ b) : ∀ n : Nat, cnt (fun x => a ≤ x ∧ x ≤ b) n = if (n : Int) ≤ a then 0 else if (n : Int) ≤ b + 1 then n - a else b - a + 1
  | 0 => by simp [cnt]; omega
  | n + 1 => by
    unfold cnt
    rw [cnt_iv h0 h1 n]
    have e : ((n + 1 : Nat) : Int) = n + 1 := by omega
    rw [e]
    repeat' split
    all_goals omega
def tot (ps : List Pr) : Int := (ps.map fun p => p.2 - p.1 + 1).sum
instance decMem (ps : List Pr) : DecidablePred (Mem ps) := fun x => by unfold Mem; exact inferInstance
theorem tot_cnt {hi : Int} {n : Nat} (hn : hi < n) : ∀ {ps : List Pr} {lo : Int}, 0 ≤ lo → Can lo hi ps → tot ps = cnt (Mem ps) n
  | [], lo, _, _ => by
    have : ∀ m : Nat, cnt (Mem []) m = 0 := fun m => by
      induction m with
      | zero => rfl
      | succ m ih => unfold cnt; rw [ih, if_neg mem_nil]; rfl
    rw [this]; rfl
  | p :: r, lo, h0, h => by
    obtain ⟨h1, h2, h3, h4⟩ := h
    have ih := tot_cnt hn (ps := r) (by omega) h4
    rw [cnt_congr (Q := fun x => (p.1 ≤ x ∧ x ≤ p.2) ∨ Mem r x) (fun x => mem_cons), cnt_or fun x k1 k2 => by have := (h4.low k2).1; omega]
    rw [← ih, cnt_iv (by omega) h2, if_neg (by omega)]
    have e : tot (p :: r) = (p.2 - p.1 + 1) + tot r := rfl
    rw [e]
    split <;> omega
end Rn

/-! Dw: dicts with keys that have a Lean type; calls that lend one object and hand more; comprehensions that draw. -/
namespace Dm
open PySem L2 Dt
open PySem.W (Datum DatumOrd Tup T3 T4)
section
variable {κ β : Type} [DecidableEq κ] {kd : κ → D} {vd : β → D}
def enc2 (kd : κ → D) (vd : β → D) (p : κ × β) : D × D := (kd p.1, vd p.2)
def tput (ws : List (κ × β)) (k : κ) (v : β) : List (κ × β) := if (ws.any fun p => decide (p.1 = k)) = true then ws.map (fun p => if p.1 = k then (p.1, v) else p) else ws ++ [(k, v)]
def tget (ws : List (κ × β)) (k : κ) : Option β := (ws.find? fun p => decide (p.1 = k)).map (·.2)
def KEnc (kd : κ → D) : Prop := ∀ a b, kEq (kd a) (kd b) = decide (a = b)
theorem dput_enc (h : KEnc kd) (ws : List (κ × β)) (k : κ) (v : β) : dput (ws.map (enc2 kd vd)) (kd k) (vd v) = (tput ws k v).map (enc2 kd vd) := by
  unfold dput tput
  have e : ((ws.map (enc2 kd vd)).any fun p => kEq p.1 (kd k)) = ws.any fun p => decide (p.1 = k) := by
    rw [List.any_map]
    congr 1
    funext p
    exact h p.1 k
  rw [e]
  split
  · rw [List.map_map, List.map_map]
    refine List.map_congr_left fun p _ => ?_
    show (if kEq (kd p.1) (kd k) = true then (kd p.1, vd v) else enc2 kd vd p) = enc2 kd vd (if p.1 = k then (p.1, v) else p)
    rw [h]
    by_cases c : p.1 = k <;> simp [c, enc2]
  · rw [List.map_append]; rfl
theorem look_enc (h : KEnc kd) (ws : List (κ × β)) (k : κ) : look (ws.map (enc2 kd vd)) (kd k) = (tget ws k).map vd := by
  unfold look tget
  rw [List.find?_map]
  have e : ((fun p : D × D => kEq p.1 (kd k)) ∘ enc2 kd vd) = fun p => decide (p.1 = k) := by
    funext p
    exact h p.1 k
  rw [e]
  cases ws.find? fun p => decide (p.1 = k) <;> rfl
theorem tput_len (ws : List (κ × β)) (k : κ) (v : β) : (tput ws k v).length ≤ ws.length + 1 := by
  unfold tput
  split <;> simp
theorem mem_tput {ws : List (κ × β)} {k : κ} {v : β} {p : κ × β} (h : p ∈ tput ws k v) : p = (k, v) ∨ p ∈ ws := by
  unfold tput at h
  split at h
  · obtain ⟨q, hq, rfl⟩ := List.mem_map.mp h
    by_cases c : q.1 = k
    · exact .inl (by simp [c])
    · exact .inr (by simpa [c] using hq)
  · rcases List.mem_append.mp h with h | h
    · exact .inr h
    · exact .inl (List.mem_singleton.mp h)
theorem tput_keys (ws : List (κ × β)) (k : κ) (v : β) : (tput ws k v).map (·.1) = if (ws.any fun p => decide (p.1 = k)) = true then ws.map (·.1) else ws.map (·.1) ++ [k] := by
  unfold tput
  split
  · rw [List.map_map]
    refine List.map_congr_left fun p _ => ?_
    show (if p.1 = k then (p.1, v) else p).1 = p.1
    split <;> rfl
  · rw [List.map_append]; rfl
theorem tput_nodup {ws : List (κ × β)} (h : (ws.map (·.1)).Nodup) (k : κ) (v : β) : ((tput ws k v).map (·.1)).Nodup := by
  rw [tput_keys]
  split
  · exact h
  · rename_i c
    rw [List.nodup_append]
    refine ⟨h, by simp, fun a ha b hb e => c ?_⟩
    rw [List.mem_singleton.mp hb] at e
    obtain ⟨p, hp, rfl⟩ := List.mem_map.mp ha
    exact List.any_eq_true.mpr ⟨p, hp, decide_eq_true e⟩
theorem tget_some {ws : List (κ × β)} {k : κ} (h : k ∈ ws.map (·.1)) : ∃ v, tget ws k = some v ∧ (k, v) ∈ ws := by
  unfold tget
  cases e : ws.find? fun p => decide (p.1 = k) with
  | none =>
    obtain ⟨p, hp, rfl⟩ := List.mem_map.mp h
    exact absurd (List.find?_eq_none.mp e p hp) (by simp)
  | some p =>
    have h1 := List.find?_some e
    have h2 := List.mem_of_find?_eq_some e
    have h1 := of_decide_eq_true h1
    subst h1
    exact ⟨p.2, rfl, h2⟩
theorem tget_mem {ws : List (κ × β)} {k : κ} {v : β} (h : tget ws k = some v) : (k, v) ∈ ws := by
  unfold tget at h
  obtain ⟨p, hp, rfl⟩ := Option.map_eq_some_iff.mp h
  have h1 := List.find?_some hp
  have h1 := of_decide_eq_true h1
  have h2 := List.mem_of_find?_eq_some hp
  subst h1
  exact h2
end
theorem kenc_str : KEnc (fun x : Str => (.str x : D)) := fun a b => by
  unfold kEq
  simp [nkOf]
theorem kenc_int : KEnc (fun x : Int => (.int x : D)) := fun a b => by
  unfold kEq
  simp [nkOf]
theorem kenc_t3 : KEnc (fun x : T3 Int Int Int => Datum.toD x) := fun a b => by
  unfold kEq
  obtain ⟨a1, a2, a3⟩ := a
  obtain ⟨b1, b2, b3⟩ := b
  show decide (nkOf (.tuple [.int a1, .int a2, .int a3]) = nkOf (.tuple [.int b1, .int b2, .int b3])) = _
  simp [nkOf, nkAll]
theorem kvs_str {β : Type} (vd : β → D) (ws : List (Str × β)) : kvsOf (.dict (ws.map (enc2 (fun x : Str => (.str x : D)) vd))) = some (false, ws.map (enc2 (fun x : Str => (.str x : D)) vd)) := by
  cases ws <;> rfl
theorem kvs_int {β : Type} (vd : β → D) (ws : List (Int × β)) : kvsOf (.dict (ws.map (enc2 (fun x : Int => (.int x : D)) vd))) = some (false, ws.map (enc2 (fun x : Int => (.int x : D)) vd)) := by
  cases ws <;> rfl
theorem kvs_nd (kvs : List (D × D)) : kvsOf (ndD kvs) = some (true, kvs) := rfl
theorem kGood_str (x : Str) : kGood false (.str x) = true := rfl
theorem kGood_int (x : Int) : kGood false (.int x) = true := rfl
@[simp] theorem q_toD_n (kvs) : O.toD (.dnt kvs) = ndD kvs := rfl
theorem sorted_kvs {d : D} {b : Bool} {kvs : List (D × D)} (h : kvsOf d = some (b, kvs)) : gSorted [d] = gSorted [.list (kvs.map (·.1))] := by
  cases d with
  | dict l =>
    show (match kvsOf (.dict l) with | some (_, kvs) => _ | none => _) = _
    rw [h]
    rfl
  | _ => cases h
theorem str_kind (xs : List Str) : sortKind (xs.map Datum.toD) = true := by
  unfold sortKind
  rw [Bool.or_eq_true]
  refine .inr (List.all_eq_true.mpr fun d hd => ?_)
  obtain ⟨a, _, rfl⟩ := List.mem_map.mp hd
  rfl
theorem t3_kind {α β γ : Type} [DecidableEq α] [Datum α] [DecidableEq β] [Datum β] [DecidableEq γ] [Datum γ] (xs : List (T3 α β γ)) : sortKind (xs.map Datum.toD) = true := by
  unfold sortKind
  rw [Bool.or_eq_true]
  refine .inl (List.all_eq_true.mpr fun d hd => ?_)
  obtain ⟨a, _, rfl⟩ := List.mem_map.mp hd
  rfl
theorem keys_enc {κ β : Type} (kd : κ → D) (vd : β → D) (ws : List (κ × β)) : (ws.map (enc2 kd vd)).map (·.1) = (ws.map (·.1)).map kd := by
  rw [List.map_map, List.map_map]; rfl
theorem sorted_str {β : Type} (vd : β → D) (ws : List (Str × β)) : gSorted [.dict (ws.map (enc2 (fun x : Str => (.str x : D)) vd))] = some (.lst ((srt (ws.map (·.1))).map fun x : Str => (.str x : D))) := by
  rw [sorted_kvs (kvs_str vd ws), keys_enc]
  exact srt_dat (ws.map (·.1)) (str_kind _)
theorem dix_str {β : Type} (vd : β → D) (ws : List (Str × β)) (k : Str) : dIx (.dict (ws.map (enc2 (fun x : Str => (.str x : D)) vd))) (.str k) = (tget ws k).map vd := by
  have := look_enc (vd := vd) kenc_str ws k
  unfold dIx
  simp only [kvs_str, kGood_str, if_true]
  exact this
/-! own dicts -/
@[simp] theorem q_sSetD (i fi fv) (ss : SS) : sSetD i fi fv ss = match fv ss with
  | .no => .no
  | .ok d s1 => match (objAt s1 i).bind kvO with
    | some _ => match fi s1 with
      | .ok k s2 => match s2[i]? with
        | some s => match s.obj.bind kvO with
          | some (n, kvs) => if kGood n k = true ∧ kvs.length < sizeLine then .nx (s2.set i (s.put (mkO n (dput kvs k d)))) else .no
          | none => .no
        | none => .no
      | .no => .no
    | none => .no := rfl
@[simp] theorem q_nDct (ss : SS) : nDct ss = .ok (.dct []) ss := rfl
@[simp] theorem q_nDnt (ss : SS) : nDnt ss = .ok (.dnt []) ss := rfl
@[simp] theorem q_kvO_d (kvs) : kvO (.dct kvs) = some (false, kvs) := rfl
@[simp] theorem q_kvO_n (kvs) : kvO (.dnt kvs) = some (true, kvs) := rfl
@[simp] theorem q_kvO_l (ds) : kvO (.lst ds) = none := rfl
@[simp] theorem q_mkO_f (kvs) : mkO false kvs = .dct kvs := rfl
@[simp] theorem q_mkO_t (kvs) : mkO true kvs = .dnt kvs := rfl
@[simp] theorem q_kg_s (x) : kGood false (.str x) = true := rfl
@[simp] theorem q_kg_i (x) : kGood false (.int x) = true := rfl
@[simp] theorem q_eOixD (i f) (ss : SS) : eOixD i f ss = match objAt ss i with
  | some _ => (f ss).bind fun k s1 => match (objAt s1 i).bind kvO with
    | some (n, kvs) => if kGood n k = true then .of (look kvs k) s1 else .no
    | none => .no
  | none => .no := rfl
/-! calls -/
def rv4 (F : FnS) (o : O) (a b c : D) : Option (D × O) := match F [.bor o, .imm a, .imm b, .imm c] with
  | some (.imm r, [.bor u, _, _, _]) => some (r, u)
  | _ => none
theorem q_rv3 (n b a c d) : rv3 (callF n b) a c d = finR 2 (b (.bor a :: .imm c :: .imm d :: List.replicate (n - 3) .un)) := by
  unfold rv3 callF
  simp only [List.cons_append, List.nil_append, List.length_cons, List.length_nil, Nat.zero_add, Nat.reduceAdd]
  generalize b _ = o
  cases o with
  | rt r ss => rcases ss with _ | ⟨_ | _ | _ | _, _ | ⟨y, _ | ⟨z, ss⟩⟩⟩ <;> cases r <;> simp [finR]
  | nx ss => rcases ss with _ | ⟨_ | _ | _ | _, _ | ⟨y, _ | ⟨z, ss⟩⟩⟩ <;> simp [finR]
  | _ => rfl
theorem q_rv4 (n b a c d e) : rv4 (callF n b) a c d e = finR 3 (b (.bor a :: .imm c :: .imm d :: .imm e :: List.replicate (n - 4) .un)) := by
  unfold rv4 callF
  simp only [List.cons_append, List.nil_append, List.length_cons, List.length_nil, Nat.zero_add, Nat.reduceAdd]
  generalize b _ = o
  cases o with
  | rt r ss => rcases ss with _ | ⟨_ | _ | _ | _, _ | ⟨y, _ | ⟨z, _ | ⟨w, ss⟩⟩⟩⟩ <;> cases r <;> simp [finR]
  | nx ss => rcases ss with _ | ⟨_ | _ | _ | _, _ | ⟨y, _ | ⟨z, _ | ⟨w, ss⟩⟩⟩⟩ <;> simp [finR]
  | _ => rfl
theorem q_r3 (F : FnS) (i : Nat) (a b : FE) (ss : SS) : eCall F (aRef i (aCons a (aCons b aNil))) ss = match (ss[i]?).bind Sl.obj with
  | some _ => (a ss).bind fun x s0 => (b s0).bind fun y s1 => (match s1[i]? with
    | some (.own o) => (match rv3 F o x y with | some (d, u) => .ok d (s1.set i (.own u)) | none => .no)
    | some (.bor o) => (match rv3 F o x y with | some (d, u) => .ok d (s1.set i (.bor u)) | none => .no)
    | _ => .no)
  | none => .no := by
  unfold eCall aRef aCons aNil
  cases h0 : (ss[i]?).bind Sl.obj with
  | none => rfl
  | some o0 =>
    simp only
    cases a ss with
    | no => rfl
    | ok d s0 =>
      simp only [q_bind_ok]
      cases b s0 with
      | no => rfl
      | ok d2 s1 =>
        simp only [q_bind_ok]
        unfold callAt rv3
        simp only [refs, List.nodup_cons, List.nodup_nil, List.not_mem_nil, not_false_eq_true, and_self, if_true, resolve, Option.map_some]
        cases h : s1[i]? with
        | none => rfl
        | some s =>
          cases s with
          | un => rfl
          | imm d => rfl
          | own o =>
            simp only [Option.bind_some, q_obj_o]
            cases e : F [.bor o, .imm d, .imm d2] with
            | none => rfl
            | some p =>
              obtain ⟨r, _ | ⟨_ | _ | _ | _, _ | ⟨z, _ | ⟨w, _ | ⟨_, t⟩⟩⟩⟩⟩ := p <;> cases r <;> simp [putB, h]
          | bor o =>
            simp only [Option.bind_some, q_obj_b]
            cases e : F [.bor o, .imm d, .imm d2] with
            | none => rfl
            | some p =>
              obtain ⟨r, _ | ⟨_ | _ | _ | _, _ | ⟨z, _ | ⟨w, _ | ⟨_, t⟩⟩⟩⟩⟩ := p <;> cases r <;> simp [putB, h]
theorem q_r4 (F : FnS) (i : Nat) (a b c : FE) (ss : SS) : eCall F (aRef i (aCons a (aCons b (aCons c aNil)))) ss = match (ss[i]?).bind Sl.obj with
  | some _ => (a ss).bind fun x s0 => (b s0).bind fun y s1 => (c s1).bind fun z s2 => (match s2[i]? with
    | some (.own o) => (match rv4 F o x y z with | some (d, u) => .ok d (s2.set i (.own u)) | none => .no)
    | some (.bor o) => (match rv4 F o x y z with | some (d, u) => .ok d (s2.set i (.bor u)) | none => .no)
    | _ => .no)
  | none => .no := by
  unfold eCall aRef aCons aNil
  cases h0 : (ss[i]?).bind Sl.obj with
  | none => rfl
  | some o0 =>
    simp only
    cases a ss with
    | no => rfl
    | ok d s0 =>
      simp only [q_bind_ok]
      cases b s0 with
      | no => rfl
      | ok d2 s1 =>
        simp only [q_bind_ok]
        cases c s1 with
        | no => rfl
        | ok d3 s2 =>
          simp only [q_bind_ok]
          unfold callAt rv4
          simp only [refs, List.nodup_cons, List.nodup_nil, List.not_mem_nil, not_false_eq_true, and_self, if_true, resolve, Option.map_some]
          cases h : s2[i]? with
          | none => rfl
          | some s =>
            cases s with
            | un => rfl
            | imm d => rfl
            | own o =>
              simp only [Option.bind_some, q_obj_o]
              cases e : F [.bor o, .imm d, .imm d2, .imm d3] with
              | none => rfl
              | some p =>
                obtain ⟨r, _ | ⟨_ | _ | _ | _, _ | ⟨z, _ | ⟨w, _ | ⟨v, _ | ⟨_, t⟩⟩⟩⟩⟩⟩ := p <;> cases r <;> simp [putB, h]
            | bor o =>
              simp only [Option.bind_some, q_obj_b]
              cases e : F [.bor o, .imm d, .imm d2, .imm d3] with
              | none => rfl
              | some p =>
                obtain ⟨r, _ | ⟨_ | _ | _ | _, _ | ⟨z, _ | ⟨w, _ | ⟨v, _ | ⟨_, t⟩⟩⟩⟩⟩⟩ := p <;> cases r <;> simp [putB, h]
/-! a comprehension that draws as it goes -/
theorem comp_draw {α β : Type} {vs : List Nat} {g : GF} {t : FB} {e : FE} (ea : α → D) (eb : β → D) (R : Nat → SS → Prop) (P : α → β → Prop) :
    ∀ (xs : List α) (n : Nat) (ss : SS), R n ss → (∀ x ∈ xs, ∀ j ss, j < n + xs.length → R j ss → ∃ y s1, turnF vs g t e (ea x) ss = some (y.map eb, s1) ∧ (∀ z, y = some z → P x z) ∧ R (j + 1) s1) →
    ∃ (ys : List β) (s2 : SS), compF vs g t e (xs.map ea) ss = some (ys.map eb, s2) ∧ ys.length ≤ xs.length ∧ (∀ y ∈ ys, ∃ x ∈ xs, P x y) ∧ R (n + xs.length) s2
  | [], n, ss, r, h => ⟨[], ss, rfl, Nat.le_refl _, fun y hy => (nomatch hy), r⟩
  | x :: xs, n, ss, r, h => by
    obtain ⟨y, s1, h1, h2, h3⟩ := h x List.mem_cons_self n ss (by simp) r
    obtain ⟨ys, s2, k1, k2, k3, k4⟩ := comp_draw ea eb R P xs (n + 1) s1 h3 fun z hz j ss hj => h z (List.mem_cons_of_mem _ hz) j ss (by rw [List.length_cons]; omega)
    refine ⟨y.toList ++ ys, s2, ?_, ?_, ?_, by rw [List.length_cons, ← Nat.add_assoc, Nat.add_right_comm]; exact k4⟩
    · rw [List.map_cons]
      unfold compF
      rw [h1]
      simp only [k1]
      cases y <;> rfl
    · rw [List.length_append, List.length_cons]
      cases y <;> simp <;> omega
    · intro z hz
      rcases List.mem_append.mp hz with hz | hz
      · cases y with
        | none => cases hz
        | some w =>
          cases List.mem_singleton.mp hz
          exact ⟨x, List.mem_cons_self, h2 _ rfl⟩
      · obtain ⟨w, hw, p⟩ := k3 z hz
        exact ⟨w, List.mem_cons_of_mem _ hw, p⟩
/-- a filter that draws -/
theorem comp_keep {α : Type} {vs : List Nat} {g : GF} {t : FB} {e : FE} (ea eb : α → D) (R : Nat → SS → Prop) :
    ∀ (xs : List α) (n : Nat) (ss : SS), R n ss → (∀ x ∈ xs, ∀ j ss, j < n + xs.length → R j ss → ∃ (b : Bool) (s1 : SS), turnF vs g t e (ea x) ss = some (if b = true then some (eb x) else none, s1) ∧ R (j + 1) s1) →
    ∃ (ys : List α) (s2 : SS), compF vs g t e (xs.map ea) ss = some (ys.map eb, s2) ∧ ys.Sublist xs ∧ R (n + xs.length) s2
  | [], n, ss, r, h => ⟨[], ss, rfl, List.Sublist.slnil, r⟩
  | x :: xs, n, ss, r, h => by
    obtain ⟨y, s1, h1, h3⟩ := h x List.mem_cons_self n ss (by simp) r
    obtain ⟨ys, s2, k1, k2, k4⟩ := comp_keep ea eb R xs (n + 1) s1 h3 fun z hz j ss hj => h z (List.mem_cons_of_mem _ hz) j ss (by rw [List.length_cons]; omega)
    refine ⟨(if y = true then [x] else []) ++ ys, s2, ?_, ?_, by rw [List.length_cons, ← Nat.add_assoc, Nat.add_right_comm]; exact k4⟩
    · rw [List.map_cons]
      unfold compF
      rw [h1]
      simp only [k1]
      cases y <;> rfl
    · cases y
      · exact k2.cons _
      · exact k2.cons_cons _
/-- a counted loop -/
theorem loop_cnt {g : GF} {b : FS} {o : Out} {n : Nat} {ss : SS} (hL : loopF g b (rangeD 0 n) ss = o) (R : Nat → SS → Prop) (h0 : R 0 ss)
    (h : ∀ j ss, j < n → R j ss → ∃ s1 s2, g (.int (j : Int)) ss = some s1 ∧ (b s1 = .nx s2 ∨ b s1 = .ct s2) ∧ R (j + 1) s2) : ∃ s2, o = .nx s2 ∧ R n s2 := by
  have key : ∀ (m k : Nat) (ss : SS), k + m = n → R k ss → ∃ s2, loopF g b ((List.range' k m).map fun i : Nat => (.int (i : Int) : D)) ss = .nx s2 ∧ R n s2 := by
    intro m
    induction m with
    | zero => intro k ss hk hr; exact ⟨ss, rfl, by rw [← hk]; exact hr⟩
    | succ m ih =>
      intro k ss hk hr
      obtain ⟨s1, s2, h1, h2, h3⟩ := h k ss (by omega) hr
      obtain ⟨s3, h4, h5⟩ := ih (k + 1) s2 (by omega) h3
      refine ⟨s3, ?_, h5⟩
      rw [List.range'_succ, List.map_cons]
      unfold loopF
      rw [h1]
      rcases h2 with h2 | h2 <;> simp only [h2] <;> exact h4
  rw [← hL]
  have e : rangeD 0 n = (List.range' 0 n).map fun i : Nat => (.int (i : Int) : D) := by
    unfold rangeD
    rw [List.range_eq_range']
    refine List.map_congr_left fun i _ => ?_
    rw [Int.zero_add]
  rw [e]
  exact key n 0 ss (by omega) h0
theorem small_ok {r : Int} (h0 : 0 ≤ r) (h1 : r < 1000000) : small r = true := by
  unfold small
  rw [Bool.and_eq_true, decide_eq_true_eq, decide_eq_true_eq]
  have e : (2 : Int) ^ 62 = 4611686018427387904 := by decide
  rw [e]
  omega
theorem eq_str (a b : Str) : dEq (.str a) (.str b) = some (.bool (decide (a = b))) := eq_dat a b
theorem ne_str (a b : Str) : dNe (.str a) (.str b) = some (.bool (!decide (a = b))) := ne_dat a b
@[simp] theorem q_eGet (f g h) (ss : SS) : eGet f g h ss = (f ss).bind fun d s1 => (g s1).bind fun k s2 => (h s2).bind fun e s3 => .of (gGet d k e) s3 := rfl
@[simp] theorem q_eOget (i g h) (ss : SS) : eOget i g h ss = match (objAt ss i).bind kvO with
  | some _ => (g ss).bind fun k s1 => (h s1).bind fun e s2 => match (objAt s2 i).bind kvO with
    | some (n, kvs) => if kGood n k = true then .ok ((look kvs k).getD e) s2 else .no
    | none => .no
  | none => .no := rfl
@[simp] theorem q_sExt (i fn) (ss : SS) : sExt i fn ss = match objAt ss i with
  | some (.lst _) => match fn ss with
    | .ok (.lst es) s1 => match s1[i]? with
      | some s => match s.obj with
        | some (.lst ds) => if ds.length + es.length ≤ sizeLine then .nx (s1.set i (s.put (.lst (ds ++ es)))) else .no
        | _ => .no
      | none => .no
    | _ => .no
  | _ => .no := rfl
@[simp] theorem q_sPar2E (i j n1 n2) (ss : SS) : sPar2E i j n1 n2 ss = if i < ss.length ∧ j < ss.length then .nx ((ss.set i (.own (mkO n1 []))).set j (.own (mkO n2 []))) else .no := rfl
theorem get_str {β : Type} (vd : β → D) (ws : List (Str × β)) (k : Str) (e : D) : gGet (.dict (ws.map (enc2 (fun x : Str => (.str x : D)) vd))) (.str k) e = some (((tget ws k).map vd).getD e) := by
  unfold gGet
  simp only [kvs_str, kGood_str, if_true, look_enc kenc_str]
/-- a dict made by a comprehension, pure -/
theorem compK_map {α κ β : Type} [DecidableEq κ] {n : Bool} {vs : List Nat} {g : GF} {t : FB} {fk fv : FE} {ss : SS} (enc : α → D) (kd : κ → D) (vd : β → D) (p : α → Bool) (key : α → κ) (val : α → β) (hk : KEnc kd) (hg : ∀ k, kGood n (kd k) = true) :
    ∀ (xs : List α) (acc : List (κ × β)), acc.length + xs.length ≤ 16777216 → (∀ x ∈ xs, turnK vs g t fk fv (enc x) ss = some (if p x = true then some (kd (key x), vd (val x)) else none, ss)) →
    compK n vs g t fk fv (xs.map enc) ss (acc.map (enc2 kd vd)) = some (((xs.filter p).foldl (fun a x => tput a (key x) (val x)) acc).map (enc2 kd vd), ss)
  | [], acc, _, _ => rfl
  | x :: xs, acc, hl, h => by
    rw [List.length_cons] at hl
    rw [List.map_cons]
    unfold compK
    rw [h x List.mem_cons_self]
    by_cases hp : p x = true
    · rw [if_pos hp, List.filter_cons_of_pos hp, List.foldl_cons]
      simp only
      have hs : (acc.map (enc2 kd vd)).length < sizeLine := by rw [List.length_map, q_size]; omega
      rw [if_pos ⟨hg _, hs⟩, dput_enc hk]
      have := tput_len acc (key x) (val x)
      exact compK_map enc kd vd p key val hk hg xs _ (by omega) fun y hy => h y (List.mem_cons_of_mem _ hy)
    · rw [if_neg hp, List.filter_cons_of_neg hp]
      simp only
      exact compK_map enc kd vd p key val hk hg xs acc (by omega) fun y hy => h y (List.mem_cons_of_mem _ hy)
theorem nDc_map {α κ β : Type} [DecidableEq κ] {n : Bool} {vs : List Nat} {src : FL} {g : GF} {t : FB} {fk fv : FE} {ss ss1 : SS} (enc : α → D) (kd : κ → D) (vd : β → D) (p : α → Bool) (key : α → κ) (val : α → β) (xs : List α) (hs : src ss = .ok (xs.map enc) ss1)
    (h : ∀ x ∈ xs, turnK vs g t fk fv (enc x) (wipeS ss1 vs) = some (if p x = true then some (kd (key x), vd (val x)) else none, wipeS ss1 vs)) (hk : KEnc kd) (hg : ∀ k, kGood n (kd k) = true) (hl : xs.length ≤ 16777216) :
    nDc n vs src g t fk fv ss = .ok (mkO n (((xs.filter p).foldl (fun a x => tput a (key x) (val x)) []).map (enc2 kd vd))) (backS vs ss1 (wipeS ss1 vs)) := by
  unfold nDc
  rw [hs, q_bind_ok]
  have := compK_map enc kd vd p key val hk hg xs [] (by simpa using hl) h
  rw [List.map_nil] at this
  rw [this]
@[simp] theorem turnK_def (vs g t fk fv d) (ss : SS) : turnK vs g t fk fv d ss = match g d (lend ss) with
  | none => none
  | some s1 => match t s1 with
    | .no => none
    | .ok false s2 => some (none, unlend ss (wipeS s2 vs))
    | .ok true s2 => match fk s2 with
      | .no => none
      | .ok k s3 => match fv s3 with
        | .no => none
        | .ok x s4 => some (some (k, x), unlend ss (wipeS s4 vs)) := rfl
@[simp] theorem q_gStar (g d0 ds) (ss : SS) : gStar g (.tuple (d0 :: ds)) ss = g [d0, .list ds] ss := rfl
/-- a comprehension that draws, one for each -/
theorem comp_each {α β : Type} {vs : List Nat} {g : GF} {t : FB} {e : FE} (ea : α → D) (eb : β → D) (key : β → α) (R : Nat → SS → Prop) (P : β → Prop) :
    ∀ (xs : List α) (n : Nat) (ss : SS), R n ss → (∀ x ∈ xs, ∀ j ss, j < n + xs.length → R j ss → ∃ (y : β) (s1 : SS), turnF vs g t e (ea x) ss = some (some (eb y), s1) ∧ key y = x ∧ P y ∧ R (j + 1) s1) →
    ∃ (ys : List β) (s2 : SS), compF vs g t e (xs.map ea) ss = some (ys.map eb, s2) ∧ ys.map key = xs ∧ (∀ y ∈ ys, P y) ∧ R (n + xs.length) s2
  | [], n, ss, r, h => ⟨[], ss, rfl, rfl, fun y hy => (nomatch hy), r⟩
  | x :: xs, n, ss, r, h => by
    obtain ⟨y, s1, h1, h2, h3, h4⟩ := h x List.mem_cons_self n ss (by simp) r
    obtain ⟨ys, s2, k1, k2, k3, k4⟩ := comp_each ea eb key R P xs (n + 1) s1 h4 fun z hz j ss hj => h z (List.mem_cons_of_mem _ hz) j ss (by rw [List.length_cons]; omega)
    refine ⟨y :: ys, s2, ?_, by rw [List.map_cons, h2, k2], fun z hz => ?_, by rw [List.length_cons, ← Nat.add_assoc, Nat.add_right_comm]; exact k4⟩
    · rw [List.map_cons]
      unfold compF
      rw [h1]
      simp only [k1]
      rfl
    · rcases List.mem_cons.mp hz with rfl | hz
      · exact h3
      · exact k3 z hz
theorem srt_strict {α : Type} [DecidableEq α] [DatumOrd α] (tri : ∀ {a b : α}, DatumOrd.lt b a = false → a ≠ b → DatumOrd.lt a b = true) {xs : List α} (h : xs.Nodup) : (srt xs).Pairwise fun a b => DatumOrd.lt a b = true := by
  have h1 := srt_pair xs
  have h2 : (srt xs).Nodup := (srt_perm xs).nodup_iff.mpr h
  exact (h1.and h2).imp fun ⟨a, b⟩ => tri a b
theorem int_tri {a b : Int} (h : DatumOrd.lt b a = false) (hn : a ≠ b) : DatumOrd.lt a b = true := by
  have h : decide (b < a) = false := h
  show decide (a < b) = true
  simp at h ⊢
  omega
theorem t3_tri {a b : T3 Int Int Int} (h : DatumOrd.lt b a = false) (hn : a ≠ b) : DatumOrd.lt a b = true := by
  obtain ⟨a1, a2, a3⟩ := a
  obtain ⟨b1, b2, b3⟩ := b
  have h : (if b1 = a1 then (if b2 = a2 then decide (b3 < a3) else decide (b2 < a2)) else decide (b1 < a1)) = false := h
  show (if a1 = b1 then (if a2 = b2 then decide (a3 < b3) else decide (a2 < b2)) else decide (a1 < b1)) = true
  by_cases e1 : a1 = b1
  · subst e1
    by_cases e2 : a2 = b2
    · subst e2
      by_cases e3 : a3 = b3
      · subst e3; exact absurd rfl hn
      · simp at h ⊢; omega
    · simp [e2, Ne.symm e2] at h ⊢; omega
  · simp [e1, Ne.symm e1] at h ⊢; omega
theorem t3_irr (a : T3 Int Int Int) : DatumOrd.lt a a = false := by
  obtain ⟨a1, a2, a3⟩ := a
  show (if a1 = a1 then (if a2 = a2 then decide (a3 < a3) else decide (a2 < a2)) else decide (a1 < a1)) = false
  simp
theorem sorted_t3 {β : Type} (vd : β → D) (ws : List (T3 Int Int Int × β)) : gSorted [ndD (ws.map (enc2 (fun x : T3 Int Int Int => Datum.toD x) vd))] = some (.lst ((srt (ws.map (·.1))).map fun x : T3 Int Int Int => Datum.toD x)) := by
  rw [sorted_kvs (kvs_nd _), keys_enc]
  exact srt_dat (ws.map (·.1)) (t3_kind _)
theorem kGood_t3 (x : T3 Int Int Int) : kGood true (Datum.toD x) = true := by
  obtain ⟨a, b, c⟩ := x
  rfl
@[simp] theorem q_eCallP (F k a) (ss : SS) : eCallP F k a ss = (a ss).bind fun as s1 => match as[k]? with
  | some (.ref i) => match objAt s1 i with
    | some o => if refs (as.set k (.d o.toD)) = [] then (match callAt F (as.set k (.d o.toD)) s1 with
      | some (.imm d, _) => if flat d = true then .ok d s1 else .no
      | _ => .no) else .no
    | none => .no
  | _ => .no := rfl
theorem callAt_2 {F : FnS} {a b r : D} {ss : SS} (h : ev2 F a b = some r) : callAt F [.d a, .d b] ss = some (.imm r, ss) := by
  unfold ev2 at h
  split at h
  · rename_i e
    cases h
    unfold callAt
    simp only [refs, List.nodup_nil, if_true, resolve, Option.map_some, Option.bind_some, e]
    rfl
  · cases h
@[simp] theorem q_lEnumA (f : FL) (ss : SS) : lEnumA f ss = (f ss).bind fun d s1 => match d with
  | [.list xs] => .ok (enumD xs) s1
  | [.tuple xs] => .ok (enumD xs) s1
  | _ => .no := rfl
theorem enum_eq (ds : List D) : enumD ds = (List.range ds.length).map fun i : Nat => (.tuple [.int (i : Int), (ds[i]?).getD .none] : D) := by
  apply List.ext_getElem?
  intro i
  rw [List.getElem?_map]
  by_cases h : i < ds.length
  · have e : (enumD ds)[i]? = some (.tuple [.int (i : Int), ds[i]]) := by
      unfold enumD
      rw [List.getElem?_zipWith, List.getElem?_range h, List.getElem?_eq_getElem h]
    rw [e, List.getElem?_range h]
    simp [h]
  · have e : (enumD ds)[i]? = none := by
      unfold enumD
      rw [List.getElem?_zipWith, List.getElem?_eq_none (by rw [List.length_range]; omega)]
    rw [e, List.getElem?_eq_none (by rw [List.length_range]; omega)]
    rfl
@[simp] theorem q_is2_n (T U) : dIs2 T U .none = some (.bool false) := rfl
@[simp] theorem q_is2_b (T U b) : dIs2 T U (.bool b) = some (.bool ((T == "int" || T == "bool") || (U == "int" || U == "bool"))) := rfl
@[simp] theorem q_is2_i (T U i) : dIs2 T U (.int i) = some (.bool (T == "int" || U == "int")) := rfl
@[simp] theorem q_is2_s (T U x) : dIs2 T U (.str x) = some (.bool (T == "str" || U == "str")) := rfl
@[simp] theorem q_is2_l (T U x) : dIs2 T U (.list x) = some (.bool (T == "list" || U == "list")) := rfl
@[simp] theorem q_is2_t (T U x) : dIs2 T U (.tuple x) = some (.bool (T == "tuple" || U == "tuple")) := rfl
end Dm

/-! Dx: texts: how long they are. -/
namespace Dm
open PySem L2 Dt
open TL (tl)
@[simp] theorem len_app (x y : Str) : (x ++ y).length = x.length + y.length := by
  rw [TL.len_tl, TL.tl_append, List.length_append, ← TL.len_tl, ← TL.len_tl]
def sn (a : Int) : Str := Str.ofString (toString a)
theorem sn_tl {a : Int} (h0 : 0 ≤ a) : tl (sn a) = TL.numL a.toNat := by
  have := TL.tl_num a.toNat
  rw [Int.toNat_of_nonneg h0] at this
  exact this
theorem sn_len {a : Int} (h0 : 0 ≤ a) (h1 : a ≤ 99) : 1 ≤ (sn a).length ∧ (sn a).length ≤ 2 := by
  rw [TL.len_tl, sn_tl h0]
  refine ⟨?_, TL.numL_len (by decide) (by omega)⟩
  have := TL.numL_ne a.toNat
  cases e : TL.numL a.toNat with
  | nil => exact absurd e this
  | cons _ _ => simp
theorem log1920 {n : Nat} (h : n < 18446744073709551616) : n.log2 < 1920 := by
  by_cases h0 : n = 0
  · rw [h0]; decide
  · have : n.log2 < 64 := (Nat.log2_lt h0).mpr h
    omega
theorem gstr {a : Int} (h : a.natAbs < 18446744073709551616) : gStr [.int a] = some (.str (sn a)) := by
  unfold gStr
  simp only [if_pos (log1920 h)]
  rfl
theorem jd_int {f : FE} {x : Int} {ss s1 : SS} (h : x.natAbs < 18446744073709551616) (hf : f ss = .ok (.int x) s1) : jD f ss = .ok (.str (sn x)) s1 := by
  unfold jD
  rw [hf]
  show (if x.natAbs.log2 < 1920 then Res.ok (PyData.str (toString x)) s1 else Res.no) = _
  rw [if_pos (log1920 h)]
  rfl
theorem jd_str {f : FE} {x : Str} {ss s1 : SS} (h : x.length ≤ 16777216) (hf : f ss = .ok (.str x) s1) : jD f ss = .ok (.str x) s1 := by
  unfold jD
  rw [hf]
  show (if x.length ≤ sizeLine then Res.ok (PyData.str x) s1 else Res.no) = _
  rw [q_size, if_pos h]
theorem join_len (x : Str) : ∀ ys : List Str, (Txt.join x ys).length ≤ (ys.map (·.length)).sum + ys.length * x.length := fun ys => by
  rw [TL.join_eq]
  induction ys with
  | nil => exact Nat.zero_le _
  | cons y ys ih =>
    cases ys with
    | nil =>
      show y.length ≤ y.length + 0 + (0 + 1) * x.length
      omega
    | cons z r =>
      show (y ++ x ++ Str.join x (z :: r)).length ≤ _
      rw [len_app, len_app, List.map_cons, List.sum_cons, List.length_cons, Nat.succ_mul]
      omega
theorem sum_le {B : Nat} : ∀ {ys : List Str}, (∀ y ∈ ys, y.length ≤ B) → (ys.map (·.length)).sum ≤ ys.length * B
  | [], _ => Nat.zero_le _
  | y :: ys, h => by
    have h1 := h y List.mem_cons_self
    have h2 := sum_le fun z hz => h z (List.mem_cons_of_mem y hz)
    rw [List.map_cons, List.sum_cons, List.length_cons, Nat.succ_mul]
    omega
theorem asS_all (ys : List Str) : (ys.map fun y => (.str y : D)).mapM asS = some ys := by
  induction ys with
  | nil => rfl
  | cons y ys ih => rw [List.map_cons, List.mapM_cons, ih]; rfl
theorem gjoin_l {x : Str} {ys : List Str} {B : Nat} (h : ∀ y ∈ ys, y.length ≤ B) (hB : ys.length * B + ys.length * x.length ≤ 16777216) :
    gJoin x (.list (ys.map fun y => .str y)) = some (.str (Txt.join x ys)) ∧ (Txt.join x ys).length ≤ ys.length * B + ys.length * x.length := by
  have h1 := sum_le h
  have h2 := join_len x ys
  refine ⟨?_, by omega⟩
  show ((ys.map fun y => (.str y : D)).mapM asS).bind _ = _
  rw [asS_all, Option.bind_some, if_pos (by omega)]
theorem gjoin_t {x : Str} {ys : List Str} {B : Nat} (h : ∀ y ∈ ys, y.length ≤ B) (hB : ys.length * B + ys.length * x.length ≤ 16777216) :
    gJoin x (.tuple (ys.map fun y => .str y)) = some (.str (Txt.join x ys)) ∧ (Txt.join x ys).length ≤ ys.length * B + ys.length * x.length := by
  have h1 := sum_le h
  have h2 := join_len x ys
  refine ⟨?_, by omega⟩
  show ((ys.map fun y => (.str y : D)).mapM asS).bind _ = _
  rw [asS_all, Option.bind_some, if_pos (by omega)]
theorem fold_len (x : Str) : (foldS x).length ≤ 9 * x.length + 8 := by
  unfold foldS
  have h1 := TK.replace_len x "~" "~~"
  have h2 := TK.replace_len (Txt.replace x "~" "~~") "\n" "~n"
  have e1 : (("~~" : Str)).length = 2 := rfl
  have e2 : (("~n" : Str)).length = 2 := rfl
  rw [e1] at h1
  rw [e2] at h2
  omega
theorem rev_len (z : Str) : (revS z).length = z.length := by
  show (z.cps.toList.reverse.toArray).size = z.cps.size
  rw [List.size_toArray, List.length_reverse, Array.length_toList]
@[simp] theorem q_eFold (f) (ss : SS) : eFold f ss = (f ss).bind fun d s1 => match d with
  | .str x => if x.length ≤ 100000 then .ok (.str (foldS x)) s1 else .no
  | _ => .no := rfl
@[simp] theorem q_jD (f) (ss : SS) : jD f ss = (f ss).bind fun d s1 => match d with
  | .str y => if y.length ≤ sizeLine then .ok (.str y) s1 else .no
  | .int i => if i.natAbs.log2 < 1920 then .ok (.str (toString i)) s1 else .no
  | _ => .no := rfl
theorem q_ts (i : Int) : (Str.ofString (toString i)) = sn i := rfl
@[simp] theorem len_of (s : String) : (Str.ofString s).length = s.toList.length := by
  rw [TL.len_tl, TL.tl_ofString, List.length_map]
theorem adds_ok {x y : Str} (h : x.length + y.length ≤ 16777216) : dAdd (.str x) (.str y) = some (.str (x ++ y)) := by
  rw [q_adds, q_fits, q_size, if_pos h]
@[simp] theorem q_eJ (fs) (ss : SS) : eJ fs ss = (jsF fs Str.empty ss).bind fun x s1 => .ok (.str x) s1 := rfl
@[simp] theorem q_jsN (acc) (ss : SS) : jsF [] acc ss = .ok acc ss := rfl
@[simp] theorem q_jsC (f fs acc) (ss : SS) : jsF (f :: fs) acc ss = (f ss).bind fun d s1 => match d with
  | .str y => if (acc ++ y).length ≤ sizeLine then jsF fs (acc ++ y) s1 else .no
  | _ => .no := rfl
@[simp] theorem len_empty : Str.empty.length = 0 := rfl
theorem js1 {f : FE} {fs : List FE} {acc y : Str} {ss s1 : SS} (hf : f ss = .ok (.str y) s1) (h : acc.length + y.length ≤ 16777216) : jsF (f :: fs) acc ss = jsF fs (acc ++ y) s1 := by
  rw [q_jsC, hf, q_bind_ok]
  simp only [len_app, q_size, if_pos h]
theorem if_le {α : Type} {n k : Nat} {a b : α} (h : n ≤ k) : (if n ≤ k then a else b) = a := if_pos h
theorem if_sz {α : Type} {n : Nat} {a b : α} (h : n ≤ 16777216) : (if n ≤ sizeLine then a else b) = a := if_pos h
theorem if_sl {α : Type} {n : Nat} {a b : α} (h : n < 16777216) : (if n < sizeLine then a else b) = a := if_pos h
theorem if_lt {α : Type} {n k : Nat} {a b : α} (h : n < k) : (if n < k then a else b) = a := if_pos h
theorem if_log {α : Type} {i : Int} {a b : α} (h : i.natAbs < 18446744073709551616) : (if i.natAbs.log2 < 1920 then a else b) = a := if_pos (log1920 h)
theorem rp_sn (i : Int) : (Str.ofString i.repr) = sn i := rfl
theorem pick_f {α : Type} {P : α → Str → Prop} {xs : List α} (h : ∀ x ∈ xs, ∃ t, P x t) : ∃ f : α → Str, ∀ x ∈ xs, P x (f x) := by
  have h2 : ∀ x, ∃ t, x ∈ xs → P x t := fun x => by
    by_cases hx : x ∈ xs
    · obtain ⟨t, ht⟩ := h x hx
      exact ⟨t, fun _ => ht⟩
    · exact ⟨Str.empty, fun k => absurd k hx⟩
  obtain ⟨f, hf⟩ := Classical.axiomOfChoice h2
  exact ⟨f, hf⟩
end Dm

/-! Dw2: sorted(set(xs)), plain. -/
namespace Dm
open PySem L2 Dt DtX
open PySem.W (Datum DatumOrd Tup T3 T4)
@[simp] theorem q_nSSA (f) (ss : SS) : nSSA f ss = (f ss).bind fun d s1 => match d with
  | .list ds => match ds.mapM asI with
    | some ns => if ns.length < 64 then .ok (.lst ((uset ns).map .int)) s1 else .no
    | none => match ds.mapM asS with
      | some ns => if ns.length < 64 then .ok (.lst ((usetX ns).map .str)) s1 else .no
      | none => .no
  | .tuple ds => match ds.mapM asS with
    | some ns => if ns.length < 64 then .ok (.lst ((usetX ns).map .str)) s1 else .no
    | none => .no
  | _ => .no := rfl
/-- of texts in a list -/
theorem nSSA_l {f : FE} {ss s1 : SS} {ns : List Str} (h : f ss = .ok (.list (ns.map fun x => .str x)) s1) (hl : ns.length < 64) : nSSA f ss = .ok (.lst ((usetX ns).map fun x => .str x)) s1 := by
  rw [q_nSSA, h, q_bind_ok]
  cases ns with
  | nil => rfl
  | cons x r =>
    have e1 : (((x :: r).map fun x => (.str x : D)).mapM asI) = none := by rw [List.map_cons, List.mapM_cons]; rfl
    have e2 := asS_all (x :: r)
    simp only [e1, e2, if_pos hl]
theorem nSSA_t {f : FE} {ss s1 : SS} {ns : List Str} (h : f ss = .ok (.tuple (ns.map fun x => .str x)) s1) (hl : ns.length < 64) : nSSA f ss = .ok (.lst ((usetX ns).map fun x => .str x)) s1 := by
  rw [q_nSSA, h, q_bind_ok]
  have e2 := asS_all ns
  simp only [e2, if_pos hl]
end Dm

/-! Dw3: more on typed dicts. -/
namespace Dm
open PySem L2 Dt
open PySem.W (Datum DatumOrd Tup T3 T4)
theorem tput_new {κ β : Type} [DecidableEq κ] {ws : List (κ × β)} {k : κ} (h : k ∉ ws.map (·.1)) (v : β) : tput ws k v = ws ++ [(k, v)] := by
  unfold tput
  rw [if_neg]
  intro c
  obtain ⟨p, hp, e⟩ := List.any_eq_true.mp c
  exact h (List.mem_map.mpr ⟨p, hp, of_decide_eq_true e⟩)
theorem tputs_app {κ β : Type} [DecidableEq κ] : ∀ (es acc : List (κ × β)), ((acc ++ es).map (·.1)).Nodup → es.foldl (fun a x => tput a x.1 x.2) acc = acc ++ es
  | [], acc, _ => by simp
  | e :: es, acc, h => by
    rw [List.foldl_cons, tput_new, tputs_app es]
    · simp
    · simpa using h
    · intro c
      rw [List.map_append, List.nodup_append] at h
      exact h.2.2 _ c _ List.mem_cons_self rfl
theorem tputs_eq {κ β : Type} [DecidableEq κ] (es : List (κ × β)) (h : (es.map (·.1)).Nodup) : es.foldl (fun a x => tput a x.1 x.2) [] = es := by
  simpa using tputs_app es [] (by simpa using h)
theorem tputs_map {α κ β : Type} [DecidableEq κ] (f : α → κ) (g : α → β) (l : List α) (h : (l.map f).Nodup) : l.foldl (fun a x => tput a (f x) (g x)) [] = l.map fun x => (f x, g x) := by
  have := tputs_eq (l.map fun x => (f x, g x)) (by rw [List.map_map]; exact h)
  rw [List.foldl_map] at this
  exact this
theorem nodup_inj {α β : Type} (f : α → β) : ∀ {l : List α}, (l.map f).Nodup → ∀ {a b : α}, a ∈ l → b ∈ l → f a = f b → a = b
  | x :: l, h, a, b, ha, hb, e => by
    rw [List.map_cons, List.nodup_cons] at h
    rcases List.mem_cons.mp ha with ha | ha <;> rcases List.mem_cons.mp hb with hb | hb
    · rw [ha, hb]
    · exact absurd (by rw [← ha, e]; exact List.mem_map_of_mem hb) h.1
    · exact absurd (by rw [← hb, ← e]; exact List.mem_map_of_mem ha) h.1
    · exact nodup_inj f h.2 ha hb e
theorem tget_map {α κ β : Type} [DecidableEq κ] (f : α → κ) (g : α → β) (l : List α) (k : κ) : tget (l.map fun x => (f x, g x)) k = (l.find? fun x => decide (f x = k)).map g := by
  unfold tget
  rw [List.find?_map]
  cases e : l.find? fun x => decide (f x = k) with
  | none =>
    have : l.find? ((fun p : κ × β => decide (p.1 = k)) ∘ fun x => (f x, g x)) = none := e
    rw [this]; rfl
  | some x =>
    have : l.find? ((fun p : κ × β => decide (p.1 = k)) ∘ fun x => (f x, g x)) = some x := e
    rw [this]; rfl
theorem dix_n (kvs : List (D × D)) (k : D) : dIx (ndD kvs) k = if kGood true k = true then look kvs k else none := rfl
theorem dix_nd {κ β : Type} [DecidableEq κ] {kd : κ → D} {vd : β → D} (h : KEnc kd) (hg : ∀ k, kGood true (kd k) = true) (ws : List (κ × β)) (k : κ) : dIx (ndD (ws.map (enc2 kd vd))) (kd k) = (tget ws k).map vd := by
  rw [dix_n, if_pos (hg k), look_enc h]
theorem gget_n (kvs : List (D × D)) (k e : D) : gGet (ndD kvs) k e = if kGood true k = true then some ((look kvs k).getD e) else none := rfl
theorem gget_nd {κ β : Type} [DecidableEq κ] {kd : κ → D} {vd : β → D} (h : KEnc kd) (hg : ∀ k, kGood true (kd k) = true) (ws : List (κ × β)) (k : κ) (e : D) : gGet (ndD (ws.map (enc2 kd vd))) (kd k) e = some (((tget ws k).map vd).getD e) := by
  rw [gget_n, if_pos (hg k), look_enc h]
theorem list_str {β : Type} (vd : β → D) (ws : List (Str × β)) : gList [.dict (ws.map (enc2 (fun x : Str => (.str x : D)) vd))] = some (.lst ((ws.map (·.1)).map fun x => .str x)) := by
  have : gList [.dict (ws.map (enc2 (fun x : Str => (.str x : D)) vd))] = (kvsOf (.dict (ws.map (enc2 (fun x : Str => (.str x : D)) vd)))).map fun p => .lst (p.2.map (·.1)) := rfl
  rw [this, kvs_str, Option.map_some, keys_enc]
/-- for cell in ([0] + script)[:k] -/
theorem law_end2 {N : Nat} {k : Int} {B : FS} {bd : FS} {ns : List Int} (hB : B = sSeq (sFor (lSeq (eSl (eOp dAdd (eFz (nLst (lCons (eC (.int 0)) lNil))) (eV 0)) oNone (oSome (eC (.int k))))) (gN 1) bd) (sRet (eC (.bool true))))
    (R : SS → Prop) (h0 : R (.imm (.list (ns.map .int)) :: List.replicate (N - 1) .un)) (h : ∀ (x : Int) (ss : SS), R ss → ∃ s1 s2, gN 1 (.int x) ss = some s1 ∧ (bd s1 = .nx s2 ∨ bd s1 = .ct s2) ∧ R s2) (hn : ns.length ≤ 63) :
    ∃ args, callF N B [.imm (.list (ns.map .int))] = some (.imm (.bool true), args) := by
  obtain ⟨cells, hcut⟩ : ∃ cells : List Int, (cutD (.int 0 :: ns.map .int) none (some k) : List D) = cells.map .int := by
    unfold cutD
    rw [show (.int 0 :: ns.map .int : List D) = (0 :: ns).map .int from rfl, ← List.map_drop, ← List.map_take]
    exact ⟨_, rfl⟩
  obtain ⟨s2, h1, h2⟩ := loop_inv (g := gN 1) (b := bd) (fun n : Int => (.int n : D)) (fun _ ss => R ss) (fun x _ ss hR => h x ss hR) cells _ h0
  have hs : dSl (.list (.int 0 :: ns.map .int)) none (some k) = some (.list (cutD (.int 0 :: ns.map .int) none (some k))) := rfl
  have hBB : B (.imm (.list (ns.map .int)) :: List.replicate (N - 1) .un) = .rt (.imm (.bool true)) s2 := by
    rw [hB]
    have h1' : loopF (gN 1) bd (cutD (.int 0 :: ns.map .int) none (some k)) (.imm (.list (ns.map .int)) :: List.replicate (N - 1) .un) = .nx s2 := by rw [hcut]; exact h1
    have hle : 1 + ns.length ≤ 16777216 := by omega
    have hle3 : ns.length + 1 ≤ 16777216 := by omega
    simp [oSome, hs, hle, hle3, h1']
  refine ⟨s2.take 1, ?_⟩
  show (match B (.imm (.list (ns.map .int)) :: List.replicate (N - 1) .un) with | .rt r ss => _ | .nx ss => _ | _ => _) = _
  rw [hBB]
  rfl
end Dm

set_option maxHeartbeats 2000000
namespace G
open PySem PySem.Spec L2 Dt
open PyProof.Rows hiding St
def top (i : Nat) : Stmt := PySem.Challenge.pw_wareyard_k07_whole_what_wares_ask.main.body.getD i (.Pass ⟨0, 0, 0, 0⟩)
abbrev S_place_of_0 : FS := (sRet (eOp dAdd (eOp dAdd (eOp dMul (eOp dIx (eV 0) (eC (.int 0))) (eC (.int 10000))) (eOp dMul (eOp dIx (eV 0) (eC (.int 1))) (eC (.int 100)))) (eOp dIx (eV 0) (eC (.int 2)))))
abbrev s_place_of : Stmt := top 1
theorem sc_place_of : FnScope ["edition"] ["edition"] (defScope s_place_of) := ⟨rfl, rfl, rfl, by decide +kernel, rfl, by decide +kernel, by decide +kernel⟩
def B_place_of : FS := S_place_of_0
def F_place_of : FnS := callF 1 B_place_of
abbrev S_edition_at_0 : FS := (sRet (eTup (lCons (eOp dDiv (eV 0) (eC (.int 10000))) (lCons (eOp dMod (eOp dDiv (eV 0) (eC (.int 100))) (eC (.int 100))) (lCons (eOp dMod (eV 0) (eC (.int 100))) lNil)))))
abbrev s_edition_at : Stmt := top 2
theorem sc_edition_at : FnScope ["place"] ["place"] (defScope s_edition_at) := ⟨rfl, rfl, rfl, by decide +kernel, rfl, by decide +kernel, by decide +kernel⟩
def B_edition_at : FS := S_edition_at_0
def F_edition_at : FnS := callF 1 B_edition_at
abbrev S_spans_of_0 : FS := (sRet (eFz (nLc [1, 2] (lSeq (eV 0)) (gTup 2 (gCons (gN 1) (gCons (gN 2) gNil))) bYes (eTup (lCons (eCall F_place_of (aCons (eV 1) aNil)) (lCons (eCall F_place_of (aCons (eV 2) aNil)) lNil))))))
abbrev s_spans_of : Stmt := top 4
theorem sc_spans_of : FnScope ["one", "low", "high"] ["one"] (defScope s_spans_of) := ⟨rfl, rfl, rfl, by decide +kernel, rfl, by decide +kernel, by decide +kernel⟩
def B_spans_of : FS := S_spans_of_0
def F_spans_of : FnS := callF 3 B_spans_of
abbrev S_joined_0 : FS := (sOwn (nLst lNil) 1)
abbrev S_joined_1_0_a0 : FS := (sSetL 1 (eUn dNeg (eC (.int 1))) (eTup (lCons (eOp dIx (eOix 1 (eUn dNeg (eC (.int 1)))) (eC (.int 0))) (lCons (eCB gMax (lCons (eOp dIx (eOix 1 (eUn dNeg (eC (.int 1)))) (eC (.int 1))) (lCons (eV 3) lNil))) lNil))))
abbrev S_joined_1_0_b0_a0 : FS := (sApp 1 (eTup (lCons (eV 2) (lCons (eV 3) lNil))))
abbrev S_joined_1_0_b0 : FS := (sIf (bOf (eOp dLe (eV 2) (eV 3))) S_joined_1_0_b0_a0 sNil)
abbrev S_joined_1_0 : FS := (sIf (bAnd (bOf (ePkL dNe 1 (eFz (nLst lNil)))) (bOf (eOp dLe (eV 2) (eOp dAdd (eOp dIx (eOix 1 (eUn dNeg (eC (.int 1)))) (eC (.int 1))) (eC (.int 1)))))) S_joined_1_0_a0 S_joined_1_0_b0)
abbrev S_joined_1 : FS := (sFor (lSeq (eFz (nCB gSorted (lCons (eV 0) lNil)))) (gTup 2 (gCons (gN 2) (gCons (gN 3) gNil))) S_joined_1_0)
abbrev S_joined_2 : FS := (sRet (eCB gTuple (lCons (eFz (nLc [2, 3] (lSeq (eVF 1)) (gTup 2 (gCons (gN 2) (gCons (gN 3) gNil))) bYes (eTup (lCons (eCall F_edition_at (aCons (eV 2) aNil)) (lCons (eCall F_edition_at (aCons (eV 3) aNil)) lNil))))) lNil)))
abbrev s_joined : Stmt := top 5
theorem sc_joined : FnScope ["spans", "found", "low", "high"] ["spans"] (defScope s_joined) := ⟨rfl, rfl, rfl, by decide +kernel, rfl, by decide +kernel, by decide +kernel⟩
def B_joined : FS := (sSeq S_joined_0
    (sSeq S_joined_1
    S_joined_2))
def F_joined : FnS := callF 4 B_joined
abbrev S_both_0 : FS := (sAsg (eFz (nLc2 [3, 4] [4] (lSeq (eCall F_spans_of (aCons (eV 0) aNil))) (gN 3) bYes (lSeq (eCall F_spans_of (aCons (eV 1) aNil))) (gN 4) bYes (eTup (lCons (eCB gMax (lCons (eOp dIx (eV 3) (eC (.int 0))) (lCons (eOp dIx (eV 4) (eC (.int 0))) lNil))) (lCons (eCB gMin (lCons (eOp dIx (eV 3) (eC (.int 1))) (lCons (eOp dIx (eV 4) (eC (.int 1))) lNil))) lNil))))) (gN 2))
abbrev S_both_1 : FS := (sRet (eCall F_joined (aCons (eFz (nLc [5] (lSeq (eV 2)) (gN 5) (bOf (eOp dLe (eOp dIx (eV 5) (eC (.int 0))) (eOp dIx (eV 5) (eC (.int 1))))) (eV 5))) aNil)))
abbrev s_both : Stmt := top 6
theorem sc_both : FnScope ["one", "other", "spans", "a", "b", "span"] ["one", "other"] (defScope s_both) := ⟨rfl, rfl, rfl, by decide +kernel, rfl, by decide +kernel, by decide +kernel⟩
def B_both : FS := (sSeq S_both_0
    S_both_1)
def F_both : FnS := callF 6 B_both
abbrev S_is_within_0 : FS := (sRet (eOp dEq (eCall F_both (aCons (eV 0) (aCons (eV 1) aNil))) (eV 0)))
abbrev s_is_within : Stmt := top 7
theorem sc_is_within : FnScope ["one", "other"] ["one", "other"] (defScope s_is_within) := ⟨rfl, rfl, rfl, by decide +kernel, rfl, by decide +kernel, by decide +kernel⟩
def B_is_within : FS := S_is_within_0
def F_is_within : FnS := callF 2 B_is_within
abbrev S_asks_0 : FS := (sOwn nDct 2)
abbrev S_asks_1_0_0_a0 : FS := (sAsg (eCall F_both (aCons (eOp dIx (eOixD 2 (eV 4)) (eC (.int 1))) (aCons (eV 5) aNil))) (gN 5))
abbrev S_asks_1_0_0_a1 : FS := (sAsg (eCB gTuple (lCons (eFz (nSSA (eOp dAdd (eOp dIx (eOixD 2 (eV 4)) (eC (.int 2))) (eV 6)))) lNil)) (gN 6))
abbrev S_asks_1_0_0 : FS := (sIf (bOf (ePkR dIn 2 (eV 4))) (sSeq S_asks_1_0_0_a0
    S_asks_1_0_0_a1) sNil)
abbrev S_asks_1_0_1 : FS := (sSetD 2 (eV 4) (eTup (lCons (eV 4) (lCons (eV 5) (lCons (eV 6) lNil)))))
abbrev L_asks_1_0 : FS := (sSeq S_asks_1_0_0
    S_asks_1_0_1)
abbrev S_asks_1_0 : FS := (sFor (lSeq (eV 3)) (gTup 3 (gCons (gN 4) (gCons (gN 5) (gCons (gN 6) gNil)))) L_asks_1_0)
abbrev S_asks_1 : FS := (sFor (lSeq (eOp dAdd (eFz (nLst (lCons (eOp dIx (eV 0) (eC (.int 2))) lNil))) (eFz (nLc [7, 8] (lSeq (eOp dIx (eV 0) (eC (.int 3)))) (gTup 2 (gCons (gN 7) (gCons (gN 8) gNil))) (bOf (eOp dIn (eV 7) (eV 1))) (eV 8))))) (gN 3) S_asks_1_0)
abbrev S_asks_2 : FS := (sRet (eCB gTuple (lCons (eFz (nLc [4] (lSeq (eFz (nCB gSorted (lCons (eVF 2) lNil)))) (gN 4) bYes (eOp dIx (eV 2) (eV 4)))) lNil)))
abbrev s_asks : Stmt := top 9
theorem sc_asks : FnScope ["ware", "extras", "found", "needs", "name", "span", "wanted", "extra", "more"] ["ware", "extras"] (defScope s_asks) := ⟨rfl, rfl, rfl, by decide +kernel, rfl, by decide +kernel, by decide +kernel⟩
def B_asks : FS := (sSeq S_asks_0
    (sSeq S_asks_1
    S_asks_2))
def F_asks : FnS := callF 9 B_asks
abbrev S__law_deck_0_a0 : FS := (sRetN (nLst (lCons (eOp dSub (eV 0) (eOp dPow (eC (.int 10)) (eC (.int 18)))) (lCons (eOp dMod (eV 0) (eC (.int 2147483579))) (lCons (eV 1) lNil)))))
abbrev S__law_deck_0 : FS := (sIf (bOf (eOp dGe (eV 0) (eOp dPow (eC (.int 10)) (eC (.int 18))))) S__law_deck_0_a0 sNil)
abbrev S__law_deck_1 : FS := (sRetN (nLst (lCons (eC (.int 0)) (lCons (eOp dMod (eV 0) (eC (.int 2147483579))) (lCons (eV 1) lNil)))))
abbrev s__law_deck : Stmt := top 11
theorem sc__law_deck : FnScope ["cell", "turn"] ["cell", "turn"] (defScope s__law_deck) := ⟨rfl, rfl, rfl, by decide +kernel, rfl, by decide +kernel, by decide +kernel⟩
def B__law_deck : FS := (sSeq S__law_deck_0
    S__law_deck_1)
def F__law_deck : FnS := callF 2 B__law_deck
abbrev S__law_pick_0_a0 : FS := (sAsg (eOp dMod (eOix 0 (eC (.int 0))) (eV 1)) (gN 2))
abbrev S__law_pick_0_a1 : FS := (sSetL 0 (eC (.int 0)) (eOp dDiv (eOix 0 (eC (.int 0))) (eV 1)))
abbrev S__law_pick_0_a2 : FS := (sRet (eV 2))
abbrev S__law_pick_0 : FS := (sIf (bOf (eOp dGt (eOix 0 (eC (.int 0))) (eC (.int 1)))) (sSeq S__law_pick_0_a0
    (sSeq S__law_pick_0_a1
    S__law_pick_0_a2)) sNil)
abbrev S__law_pick_1 : FS := (sSetL 0 (eC (.int 2)) (eOp dAdd (eOix 0 (eC (.int 2))) (eC (.int 1))))
abbrev S__law_pick_2 : FS := (sAsg (eOp dMod (eOp dPow (eOp dAdd (eOix 0 (eC (.int 1))) (eOp dMul (eC (.int 15485867)) (eOix 0 (eC (.int 2))))) (eC (.int 5))) (eC (.int 2147483647))) (gN 3))
abbrev S__law_pick_3 : FS := (sAsg (eOp dDiv (eOp dMod (eOp dPow (eOp dAdd (eV 3) (eOp dMul (eC (.int 7919)) (eOix 0 (eC (.int 2))))) (eC (.int 3))) (eC (.int 2147483629))) (eC (.int 32))) (gN 2))
abbrev S__law_pick_4_a0 : FS := (sRet (eOp dMod (eOp dAdd (eOp dMul (eV 2) (eC (.int 2147483563))) (eV 3)) (eV 1)))
abbrev S__law_pick_4 : FS := (sIf (bOf (eOp dGt (eV 1) (eC (.int 1000000)))) S__law_pick_4_a0 sNil)
abbrev S__law_pick_5 : FS := (sRet (eOp dMod (eV 2) (eV 1)))
abbrev s__law_pick : Stmt := top 12
theorem sc__law_pick : FnScope ["deck", "many", "found", "number"] ["deck", "many"] (defScope s__law_pick) := ⟨rfl, rfl, rfl, by decide +kernel, rfl, by decide +kernel, by decide +kernel⟩
def B__law_pick : FS := (sSeq S__law_pick_0
    (sSeq S__law_pick_1
    (sSeq S__law_pick_2
    (sSeq S__law_pick_3
    (sSeq S__law_pick_4
    S__law_pick_5)))))
def F__law_pick : FnS := callF 4 B__law_pick
abbrev S__law_edition_0 : FS := (sAsg (eCall F__law_pick (aRef 0 (aCons (eC (.int 5)) aNil))) (gN 1))
abbrev S__law_edition_1_a0 : FS := (sRet (eTup (lCons (eCall F__law_pick (aRef 0 (aCons (eC (.int 3)) aNil))) (lCons (eCall F__law_pick (aRef 0 (aCons (eC (.int 2)) aNil))) (lCons (eC (.int 0)) lNil)))))
abbrev S__law_edition_1 : FS := (sIf (bOf (eOp dLt (eV 1) (eC (.int 4)))) S__law_edition_1_a0 sNil)
abbrev S__law_edition_2 : FS := (sAsg (eFz (nLst (lCons (eC (.int 0)) (lCons (eC (.int 1)) (lCons (eC (.int 99)) (lCons (eCall F__law_pick (aRef 0 (aCons (eC (.int 100)) aNil))) lNil)))))) (gN 2))
abbrev S__law_edition_3 : FS := (sRet (eTup (lCons (eOp dIx (eV 2) (eCall F__law_pick (aRef 0 (aCons (eC (.int 4)) aNil)))) (lCons (eOp dIx (eV 2) (eCall F__law_pick (aRef 0 (aCons (eC (.int 4)) aNil)))) (lCons (eOp dIx (eV 2) (eCall F__law_pick (aRef 0 (aCons (eC (.int 4)) aNil)))) lNil)))))
abbrev s__law_edition : Stmt := top 13
theorem sc__law_edition : FnScope ["deck", "way", "some"] ["deck"] (defScope s__law_edition) := ⟨rfl, rfl, rfl, by decide +kernel, rfl, by decide +kernel, by decide +kernel⟩
def B__law_edition : FS := (sSeq S__law_edition_0
    (sSeq S__law_edition_1
    (sSeq S__law_edition_2
    S__law_edition_3)))
def F__law_edition : FnS := callF 3 B__law_edition
abbrev S__law_place_0 : FS := (sRet (eOp dAdd (eOp dAdd (eOp dMul (eOp dIx (eV 0) (eC (.int 0))) (eC (.int 10000))) (eOp dMul (eOp dIx (eV 0) (eC (.int 1))) (eC (.int 100)))) (eOp dIx (eV 0) (eC (.int 2)))))
abbrev s__law_place : Stmt := top 14
theorem sc__law_place : FnScope ["edition"] ["edition"] (defScope s__law_place) := ⟨rfl, rfl, rfl, by decide +kernel, rfl, by decide +kernel, by decide +kernel⟩
def B__law_place : FS := S__law_place_0
def F__law_place : FnS := callF 1 B__law_place
abbrev S__law_at_0 : FS := (sRet (eTup (lCons (eOp dDiv (eV 0) (eC (.int 10000))) (lCons (eOp dMod (eOp dDiv (eV 0) (eC (.int 100))) (eC (.int 100))) (lCons (eOp dMod (eV 0) (eC (.int 100))) lNil)))))
abbrev s__law_at : Stmt := top 15
theorem sc__law_at : FnScope ["place"] ["place"] (defScope s__law_at) := ⟨rfl, rfl, rfl, by decide +kernel, rfl, by decide +kernel, by decide +kernel⟩
def B__law_at : FS := S__law_at_0
def F__law_at : FnS := callF 1 B__law_at
abbrev S__law_joined_0 : FS := (sOwn (nLst lNil) 1)
abbrev S__law_joined_1_0_a0 : FS := (sSetL 1 (eUn dNeg (eC (.int 1))) (eTup (lCons (eOp dIx (eOix 1 (eUn dNeg (eC (.int 1)))) (eC (.int 0))) (lCons (eCB gMax (lCons (eV 3) (lCons (eOp dIx (eOix 1 (eUn dNeg (eC (.int 1)))) (eC (.int 1))) lNil))) lNil))))
abbrev S__law_joined_1_0_b0 : FS := (sApp 1 (eTup (lCons (eV 2) (lCons (eV 3) lNil))))
abbrev S__law_joined_1_0 : FS := (sIf (bAnd (bOf (ePkL dNe 1 (eFz (nLst lNil)))) (bOf (eOp dLe (eV 2) (eOp dAdd (eOp dIx (eOix 1 (eUn dNeg (eC (.int 1)))) (eC (.int 1))) (eC (.int 1)))))) S__law_joined_1_0_a0 S__law_joined_1_0_b0)
abbrev S__law_joined_1 : FS := (sFor (lSeq (eFz (nCB gSorted (lCons (eV 0) lNil)))) (gTup 2 (gCons (gN 2) (gCons (gN 3) gNil))) S__law_joined_1_0)
abbrev S__law_joined_2 : FS := (sRet (eCB gTuple (lCons (eFz (nLc [2, 3] (lSeq (eVF 1)) (gTup 2 (gCons (gN 2) (gCons (gN 3) gNil))) bYes (eTup (lCons (eCall F__law_at (aCons (eV 2) aNil)) (lCons (eCall F__law_at (aCons (eV 3) aNil)) lNil))))) lNil)))
abbrev s__law_joined : Stmt := top 16
theorem sc__law_joined : FnScope ["spans", "found", "low", "high"] ["spans"] (defScope s__law_joined) := ⟨rfl, rfl, rfl, by decide +kernel, rfl, by decide +kernel, by decide +kernel⟩
def B__law_joined : FS := (sSeq S__law_joined_0
    (sSeq S__law_joined_1
    S__law_joined_2))
def F__law_joined : FnS := callF 4 B__law_joined
abbrev S__law_span_0 : FS := (sAsg (eCall F__law_pick (aRef 0 (aCons (eC (.int 9)) aNil))) (gN 1))
abbrev S__law_span_1 : FS := (sAsg (eFz (nCB gSorted (lCons (eFz (nLst (lCons (eCall F__law_place (aCons (eCall F__law_edition (aRef 0 aNil)) aNil)) (lCons (eCall F__law_place (aCons (eCall F__law_edition (aRef 0 aNil)) aNil)) lNil)))) lNil))) (gLst 2 (gCons (gN 2) (gCons (gN 3) gNil))))
abbrev S__law_span_2_a0 : FS := (sRet (eTup (lCons (eTup (lCons (eTup (lCons (eC (.int 0)) (lCons (eC (.int 0)) (lCons (eC (.int 0)) lNil)))) (lCons (eTup (lCons (eC (.int 99)) (lCons (eC (.int 99)) (lCons (eC (.int 99)) lNil)))) lNil))) lNil)))
abbrev S__law_span_2 : FS := (sIf (bOf (eOp dLt (eV 1) (eC (.int 3)))) S__law_span_2_a0 sNil)
abbrev S__law_span_3_a0 : FS := (sRet (eTup (lCons (eTup (lCons (eCall F__law_at (aCons (eV 2) aNil)) (lCons (eTup (lCons (eC (.int 99)) (lCons (eC (.int 99)) (lCons (eC (.int 99)) lNil)))) lNil))) lNil)))
abbrev S__law_span_3 : FS := (sIf (bOf (eOp dEq (eV 1) (eC (.int 3)))) S__law_span_3_a0 sNil)
abbrev S__law_span_4_a0 : FS := (sRet (eTup (lCons (eTup (lCons (eTup (lCons (eC (.int 0)) (lCons (eC (.int 0)) (lCons (eC (.int 0)) lNil)))) (lCons (eCall F__law_at (aCons (eV 3) aNil)) lNil))) lNil)))
abbrev S__law_span_4 : FS := (sIf (bOf (eOp dEq (eV 1) (eC (.int 4)))) S__law_span_4_a0 sNil)
abbrev S__law_span_5_a0 : FS := (sRet (eTup (lCons (eTup (lCons (eCall F__law_at (aCons (eV 2) aNil)) (lCons (eCall F__law_at (aCons (eV 3) aNil)) lNil))) lNil)))
abbrev S__law_span_5 : FS := (sIf (bOf (eOp dLt (eV 1) (eC (.int 7)))) S__law_span_5_a0 sNil)
abbrev S__law_span_6_a0 : FS := (sAsg (eCall F__law_place (aCons (eCall F__law_edition (aRef 0 aNil)) aNil)) (gN 4))
abbrev S__law_span_6_a1 : FS := (sRet (eCall F__law_joined (aCons (eFz (nLst (lCons (eTup (lCons (eV 2) (lCons (eV 2) lNil))) (lCons (eTup (lCons (eV 3) (lCons (eV 3) lNil))) (lCons (eTup (lCons (eV 4) (lCons (eCB gMin (lCons (eC (.int 999999)) (lCons (eOp dAdd (eV 4) (eCall F__law_pick (aRef 0 (aCons (eC (.int 300)) aNil)))) lNil))) lNil))) lNil))))) aNil)))
abbrev S__law_span_6 : FS := (sIf (bOf (eOp dEq (eV 1) (eC (.int 7)))) (sSeq S__law_span_6_a0
    S__law_span_6_a1) sNil)
abbrev S__law_span_7 : FS := (sRet (eCall F__law_joined (aCons (eOp dMul (eFz (nLst (lCons (eTup (lCons (eV 2) (lCons (eV 3) lNil))) lNil))) (eCall F__law_pick (aRef 0 (aCons (eC (.int 2)) aNil)))) aNil)))
abbrev s__law_span : Stmt := top 17
theorem sc__law_span : FnScope ["deck", "way", "one", "other", "more"] ["deck"] (defScope s__law_span) := ⟨rfl, rfl, rfl, by decide +kernel, rfl, by decide +kernel, by decide +kernel⟩
def B__law_span : FS := (sSeq S__law_span_0
    (sSeq S__law_span_1
    (sSeq S__law_span_2
    (sSeq S__law_span_3
    (sSeq S__law_span_4
    (sSeq S__law_span_5
    (sSeq S__law_span_6
    S__law_span_7)))))))
def F__law_span : FnS := callF 5 B__law_span
abbrev S__law_need_0 : FS := (sAsg (eFz (nLc [4] (lSeq (eV 2)) (gN 4) (bOf (eOp dEq (eCall F__law_pick (aRef 0 (aCons (eC (.int 4)) aNil))) (eC (.int 0)))) (eV 4))) (gN 3))
abbrev S__law_need_1 : FS := (sRet (eTup (lCons (eV 1) (lCons (eCall F__law_span (aRef 0 aNil)) (lCons (eCB gTuple (lCons (eV 3) lNil)) lNil)))))
abbrev s__law_need : Stmt := top 18
theorem sc__law_need : FnScope ["deck", "name", "extras", "wanted", "extra"] ["deck", "name", "extras"] (defScope s__law_need) := ⟨rfl, rfl, rfl, by decide +kernel, rfl, by decide +kernel, by decide +kernel⟩
def B__law_need : FS := (sSeq S__law_need_0
    S__law_need_1)
def F__law_need : FnS := callF 5 B__law_need
abbrev S__law_needs_0 : FS := (sOwn nDct 3)
abbrev S__law_needs_1_0_a0 : FS := (sAsg (eOp dIx (eV 1) (eCall F__law_pick (aRef 0 (aCons (eCB gLen (lCons (eV 1) lNil)) aNil)))) (gN 5))
abbrev S__law_needs_1_0_a1 : FS := (sSetD 3 (eV 5) (eCall F__law_need (aRef 0 (aCons (eV 5) (aCons (eFz (nLst (lCons (eC (.str (Str.ofString "fast"))) (lCons (eC (.str (Str.ofString "slim"))) lNil)))) aNil)))))
abbrev S__law_needs_1_0 : FS := (sIf (bOf (eOp dNe (eV 1) (eFz (nLst lNil)))) (sSeq S__law_needs_1_0_a0
    S__law_needs_1_0_a1) sNil)
abbrev S__law_needs_1 : FS := (sFor (lRng1 (lCons (eCall F__law_pick (aRef 0 (aCons (eOp dAdd (eV 2) (eC (.int 1))) aNil))) lNil)) (gN 4) S__law_needs_1_0)
abbrev S__law_needs_2 : FS := (sRet (eCB gTuple (lCons (eFz (nLc [5] (lSeq (eFz (nCB gSorted (lCons (eVF 3) lNil)))) (gN 5) bYes (eOp dIx (eV 3) (eV 5)))) lNil)))
abbrev s__law_needs : Stmt := top 19
theorem sc__law_needs : FnScope ["deck", "names", "limit", "found", "k", "name"] ["deck", "names", "limit"] (defScope s__law_needs) := ⟨rfl, rfl, rfl, by decide +kernel, rfl, by decide +kernel, by decide +kernel⟩
def B__law_needs : FS := (sSeq S__law_needs_0
    (sSeq S__law_needs_1
    S__law_needs_2))
def F__law_needs : FnS := callF 6 B__law_needs
abbrev S__law_ware_0 : FS := (sAsg (eFz (nLc [10] (lSeq (eV 3)) (gN 10) (bOf (eOp dNe (eV 10) (eV 1))) (eV 10))) (gN 4))
abbrev S__law_ware_1 : FS := (sOwn (nLst lNil) 5)
abbrev S__law_ware_2_0_a0 : FS := (sApp 5 (eTup (lCons (eV 6) (lCons (eCall F__law_needs (aRef 0 (aCons (eV 4) (aCons (eC (.int 1)) aNil)))) lNil))))
abbrev S__law_ware_2_0 : FS := (sIf (bOf (eOp dEq (eCall F__law_pick (aRef 0 (aCons (eC (.int 2)) aNil))) (eC (.int 0)))) S__law_ware_2_0_a0 sNil)
abbrev S__law_ware_2 : FS := (sFor (lSeq (eFz (nLst (lCons (eC (.str (Str.ofString "fast"))) (lCons (eC (.str (Str.ofString "slim"))) lNil))))) (gN 6) S__law_ware_2_0)
abbrev S__law_ware_3 : FS := (sAsg (eOp dAdd (eOp dAdd (eOp dAdd (eV 1) (eCB gStr (lCons (eOp dIx (eV 2) (eC (.int 0))) lNil))) (eCB gStr (lCons (eOp dIx (eV 2) (eC (.int 1))) lNil))) (eOp dIx (eFz (nLst (lCons (eC (.str (Str.ofString ""))) (lCons (eC (.str (Str.ofString "~"))) (lCons (eC (.str (Str.ofString "\n"))) (lCons (eC (.str (Str.ofString " x"))) lNil)))))) (eCall F__law_pick (aRef 0 (aCons (eC (.int 4)) aNil))))) (gN 7))
abbrev S__law_ware_4 : FS := (sAsg (eTup (lCons (eTup (lCons (eOp dAdd (eV 1) (eC (.str (Str.ofString "/a")))) (lCons (eV 7) lNil))) (lCons (eTup (lCons (eOp dAdd (eV 1) (eC (.str (Str.ofString "/b")))) (lCons (eOp dIx (eFz (nLst (lCons (eC (.str (Str.ofString ""))) (lCons (eC (.str (Str.ofString "b"))) lNil)))) (eCall F__law_pick (aRef 0 (aCons (eC (.int 2)) aNil)))) lNil))) lNil))) (gN 8))
abbrev S__law_ware_5 : FS := (sAsg (eFz (nLst (lCons (eTup (lCons (eC (.str (Str.ofString "put"))) (lCons (eOp dAdd (eV 1) (eC (.str (Str.ofString "/c")))) (lCons (eRev (eV 7)) lNil)))) (lCons (eTup (lCons (eC (.str (Str.ofString "join"))) (lCons (eOp dAdd (eV 1) (eC (.str (Str.ofString "/d")))) (lCons (eTup (lCons (eOp dAdd (eV 1) (eC (.str (Str.ofString "/a")))) (lCons (eOp dAdd (eV 1) (eC (.str (Str.ofString "/b")))) lNil))) lNil)))) (lCons (eTup (lCons (eC (.str (Str.ofString "drop"))) (lCons (eOp dAdd (eV 1) (eC (.str (Str.ofString "/b")))) lNil))) lNil))))) (gN 9))
abbrev S__law_ware_6 : FS := (sRet (eTup (lCons (eV 1) (lCons (eV 2) (lCons (eCall F__law_needs (aRef 0 (aCons (eV 4) (aCons (eC (.int 3)) aNil)))) (lCons (eCB gTuple (lCons (eVF 5) lNil)) (lCons (eV 8) (lCons (eCB gTuple (lCons (eSl (eV 9) oNone (oSome (eCall F__law_pick (aRef 0 (aCons (eC (.int 4)) aNil))))) lNil)) lNil))))))))
abbrev s__law_ware : Stmt := top 20
theorem sc__law_ware : FnScope ["deck", "name", "edition", "names", "others", "extras", "extra", "text", "files", "steps", "one"] ["deck", "name", "edition", "names"] (defScope s__law_ware) := ⟨rfl, rfl, rfl, by decide +kernel, rfl, by decide +kernel, by decide +kernel⟩
def B__law_ware : FS := (sSeq S__law_ware_0
    (sSeq S__law_ware_1
    (sSeq S__law_ware_2
    (sSeq S__law_ware_3
    (sSeq S__law_ware_4
    (sSeq S__law_ware_5
    S__law_ware_6))))))
def F__law_ware : FnS := callF 11 B__law_ware
abbrev S__law_in_0 : FS := (sRet (eOp dNe (eFz (nLc [2] (lSeq (eV 0)) (gN 2) (bOf (eCh dLe dLe (eCall F__law_place (aCons (eOp dIx (eV 2) (eC (.int 0))) aNil)) (eV 1) (eCall F__law_place (aCons (eOp dIx (eV 2) (eC (.int 1))) aNil)))) (eV 2))) (eFz (nLst lNil))))
abbrev s__law_in : Stmt := top 24
theorem sc__law_in : FnScope ["span", "place", "pair"] ["span", "place"] (defScope s__law_in) := ⟨rfl, rfl, rfl, by decide +kernel, rfl, by decide +kernel, by decide +kernel⟩
def B__law_in : FS := S__law_in_0
def F__law_in : FnS := callF 3 B__law_in
abbrev S__law_near_0 : FS := (sAsg (eFz (nLst (lCons (eC (.int 0)) (lCons (eC (.int 999999)) lNil)))) (gN 1))
abbrev S__law_near_1_0_0 : FS := (sAsg (eOp dAdd (eOp dAdd (eV 1) (eFz (nLc [8] (lSeq (eTup (lCons (eUn dNeg (eC (.int 1))) (lCons (eC (.int 0)) (lCons (eC (.int 1)) lNil))))) (gN 8) bYes (eOp dAdd (eCall F__law_place (aCons (eV 3) aNil)) (eV 8))))) (eFz (nLc [8] (lSeq (eTup (lCons (eUn dNeg (eC (.int 1))) (lCons (eC (.int 0)) (lCons (eC (.int 1)) lNil))))) (gN 8) bYes (eOp dAdd (eCall F__law_place (aCons (eV 4) aNil)) (eV 8))))) (gN 1))
abbrev S__law_near_1_0 : FS := (sFor (lSeq (eV 2)) (gTup 2 (gCons (gN 3) (gCons (gN 4) gNil))) S__law_near_1_0_0)
abbrev S__law_near_1 : FS := (sFor (lSeq (eV 0)) (gN 2) S__law_near_1_0)
abbrev S__law_near_2 : FS := (sAsg (eFz (nSSB (eFz (nLc [7] (lSeq (eV 1)) (gN 7) (bOf (eCh dLe dLe (eC (.int 0)) (eV 7) (eC (.int 999999)))) (eV 7))))) (gN 1))
abbrev S__law_near_3 : FS := (sRet (eOp dAdd (eV 1) (eFz (nLc [5, 6] (lZip (lCons (eV 1) (lCons (eSl (eV 1) (oSome (eC (.int 1))) oNone) lNil))) (gTup 2 (gCons (gN 5) (gCons (gN 6) gNil))) bYes (eOp dDiv (eOp dAdd (eV 5) (eV 6)) (eC (.int 2)))))))
abbrev s__law_near : Stmt := top 25
theorem sc__law_near : FnScope ["spans", "found", "span", "low", "high", "one", "other", "place", "k"] ["spans"] (defScope s__law_near) := ⟨rfl, rfl, rfl, by decide +kernel, rfl, by decide +kernel, by decide +kernel⟩
def B__law_near : FS := (sSeq S__law_near_0
    (sSeq S__law_near_1
    (sSeq S__law_near_2
    S__law_near_3)))
def F__law_near : FnS := callF 9 B__law_near
abbrev S__law_asked_0 : FS := (sAsg (eFz (nCB gList (lCons (eOp dIx (eV 0) (eC (.int 2))) lNil))) (gN 2))
abbrev S__law_asked_1_0_a0 : FS := (sAsg (eOp dAdd (eV 2) (eFz (nCB gList (lCons (eV 4) lNil)))) (gN 2))
abbrev S__law_asked_1_0 : FS := (sIf (bOf (eOp dIn (eV 3) (eV 1))) S__law_asked_1_0_a0 sNil)
abbrev S__law_asked_1 : FS := (sFor (lSeq (eOp dIx (eV 0) (eC (.int 3)))) (gTup 2 (gCons (gN 3) (gCons (gN 4) gNil))) S__law_asked_1_0)
abbrev S__law_asked_2 : FS := (sRet (eV 2))
abbrev s__law_asked : Stmt := top 26
theorem sc__law_asked : FnScope ["ware", "extras", "found", "extra", "needs"] ["ware", "extras"] (defScope s__law_asked) := ⟨rfl, rfl, rfl, by decide +kernel, rfl, by decide +kernel, by decide +kernel⟩
def B__law_asked : FS := (sSeq S__law_asked_0
    (sSeq S__law_asked_1
    S__law_asked_2))
def F__law_asked : FnS := callF 5 B__law_asked
abbrev S__law_right_0 : FS := (sAsg (eCall F_asks (aCons (eV 0) (aCons (eV 1) aNil))) (gN 2))
abbrev S__law_right_1 : FS := (sAsg (eCall F__law_asked (aCons (eV 0) (aCons (eV 1) aNil))) (gN 3))
abbrev S__law_right_2 : FS := (sAsg (eFz (nSSA (eFz (nLc [12] (lSeq (eV 3)) (gN 12) bYes (eOp dIx (eV 12) (eC (.int 0))))))) (gN 4))
abbrev S__law_right_3_a0 : FS := (sRet (eC (.bool false)))
abbrev S__law_right_3 : FS := (sIf (bOr (bNot (bOf (eUn (dIs "tuple") (eV 2)))) (bOf (eOp dNe (eFz (nLc [12] (lSeq (eV 2)) (gN 12) bYes (eOp dIx (eV 12) (eC (.int 0))))) (eV 4)))) S__law_right_3_a0 sNil)
abbrev S__law_right_4_0 : FS := (sAsg (eFz (nLc [12] (lSeq (eV 3)) (gN 12) (bOf (eOp dEq (eOp dIx (eV 12) (eC (.int 0))) (eV 5))) (eV 12))) (gN 8))
abbrev S__law_right_4_1_0 : FS := (sAsg (eFz (nLc [12] (lSeq (eV 8)) (gN 12) (bNot (bOf (eCall F__law_in (aCons (eOp dIx (eV 12) (eC (.int 1))) (aCons (eV 9) aNil))))) (eV 12))) (gN 10))
abbrev S__law_right_4_1_1_a0 : FS := (sRet (eC (.bool false)))
abbrev S__law_right_4_1_1 : FS := (sIf (bOf (eOp dNe (eCall F__law_in (aCons (eV 6) (aCons (eV 9) aNil))) (eOp dEq (eV 10) (eFz (nLst lNil))))) S__law_right_4_1_1_a0 sNil)
abbrev L__law_right_4_1 : FS := (sSeq S__law_right_4_1_0
    S__law_right_4_1_1)
abbrev S__law_right_4_1 : FS := (sFor (lSeq (eCall F__law_near (aCons (eOp dAdd (eFz (nLc [12] (lSeq (eV 8)) (gN 12) bYes (eOp dIx (eV 12) (eC (.int 1))))) (eFz (nLst (lCons (eV 6) lNil)))) aNil))) (gN 9) L__law_right_4_1)
abbrev S__law_right_4_2 : FS := (sOwn nDct 11)
abbrev S__law_right_4_3_0_0 : FS := (sSetD 11 (eV 13) (eC (.bool true)))
abbrev S__law_right_4_3_0 : FS := (sFor (lSeq (eOp dIx (eV 12) (eC (.int 2)))) (gN 13) S__law_right_4_3_0_0)
abbrev S__law_right_4_3 : FS := (sFor (lSeq (eV 8)) (gN 12) S__law_right_4_3_0)
abbrev S__law_right_4_4_a0 : FS := (sRet (eC (.bool false)))
abbrev S__law_right_4_4 : FS := (sIf (bOf (eOp dNe (eV 7) (eCB gTuple (lCons (eFz (nCB gSorted (lCons (eVF 11) lNil))) lNil)))) S__law_right_4_4_a0 sNil)
abbrev L__law_right_4 : FS := (sSeq S__law_right_4_0
    (sSeq S__law_right_4_1
    (sSeq S__law_right_4_2
    (sSeq S__law_right_4_3
    S__law_right_4_4))))
abbrev S__law_right_4 : FS := (sFor (lSeq (eV 2)) (gTup 3 (gCons (gN 5) (gCons (gN 6) (gCons (gN 7) gNil)))) L__law_right_4)
abbrev S__law_right_5 : FS := (sRet (eC (.bool true)))
abbrev s__law_right : Stmt := top 27
theorem sc__law_right : FnScope ["ware", "extras", "told", "some", "names", "name", "span", "wanted", "own", "place", "out", "more", "need", "extra"] ["ware", "extras"] (defScope s__law_right) := ⟨rfl, rfl, rfl, by decide +kernel, rfl, by decide +kernel, by decide +kernel⟩
def B__law_right : FS := (sSeq S__law_right_0
    (sSeq S__law_right_1
    (sSeq S__law_right_2
    (sSeq S__law_right_3
    (sSeq S__law_right_4
    S__law_right_5)))))
def F__law_right : FnS := callF 14 B__law_right
abbrev S_law_0_0 : FS := (sOwn (nCall F__law_deck (aCons (eV 1) (aCons (eC (.int 0)) aNil))) 2)
abbrev S_law_0_1 : FS := (sAsg (eCall F__law_ware (aRef 2 (aCons (eC (.str (Str.ofString "a"))) (aCons (eTup (lCons (eC (.int 1)) (lCons (eC (.int 0)) (lCons (eC (.int 0)) lNil)))) (aCons (eFz (nLst (lCons (eC (.str (Str.ofString "b"))) (lCons (eC (.str (Str.ofString "c"))) lNil)))) aNil))))) (gN 3))
abbrev S_law_0_2 : FS := (sAsg (eCB gStrT (lCons (eV 3) lNil)) (gN 4))
abbrev S_law_0_3 : FS := (sAsg (eCB gTuple (lCons (eFz (nLc [11, 12] (lSeq (eOp dIx (eV 3) (eC (.int 3)))) (gTup 2 (gCons (gN 11) (gCons (gN 12) gNil))) bYes (eV 11))) lNil)) (gN 5))
abbrev S_law_0_4_0_a0 : FS := (sRet (eC (.bool false)))
abbrev S_law_0_4_0 : FS := (sIf (bOr (bNot (bOf (eCall F__law_right (aCons (eV 3) (aCons (eV 6) aNil))))) (bOr (bOf (eOp dNe (eCall F_asks (aCons (eV 3) (aCons (eV 6) aNil))) (eCall F_asks (aCons (eV 3) (aCons (eV 6) aNil))))) (bOf (eOp dNe (eCB gStrT (lCons (eV 3) lNil)) (eV 4))))) S_law_0_4_0_a0 sNil)
abbrev S_law_0_4 : FS := (sFor (lSeq (eFz (nLst (lCons (eTup lNil) (lCons (eV 5) (lCons (eSl (eV 5) oNone (oSome (eC (.int 1)))) (lCons (eSl (eV 5) (oSome (eC (.int 1))) oNone) lNil))))))) (gN 6) S_law_0_4_0)
abbrev S_law_0_5_a0 : FS := (sRet (eC (.bool false)))
abbrev S_law_0_5 : FS := (sIf (bOf (eOp dNe (eCall F_asks (aCons (eV 3) (aCons (eTup lNil) aNil))) (eOp dIx (eV 3) (eC (.int 2))))) S_law_0_5_a0 sNil)
abbrev S_law_0_6_0 : FS := (sAsg (eFz (nLc [13] (lSeq (eCall F_asks (aCons (eV 3) (aCons (eV 5) aNil)))) (gN 13) (bOf (eOp dEq (eOp dIx (eV 13) (eC (.int 0))) (eV 7))) (eV 13))) (gN 10))
abbrev S_law_0_6_1_a0 : FS := (sRet (eC (.bool false)))
abbrev S_law_0_6_1 : FS := (sIf (bOr (bOf (eOp dNe (eCB gLen (lCons (eV 10) lNil)) (eC (.int 1)))) (bNot (bOf (eCall F_is_within (aCons (eOp dIx (eOp dIx (eV 10) (eC (.int 0))) (eC (.int 1))) (aCons (eV 8) aNil)))))) S_law_0_6_1_a0 sNil)
abbrev S_law_0_6_2_a0 : FS := (sRet (eC (.bool false)))
abbrev S_law_0_6_2 : FS := (sIf (bOf (eOp dNe (eFz (nLc [14] (lSeq (eV 9)) (gN 14) (bOf (eOp dNin (eV 14) (eOp dIx (eOp dIx (eV 10) (eC (.int 0))) (eC (.int 2))))) (eV 14))) (eFz (nLst lNil)))) S_law_0_6_2_a0 sNil)
abbrev L_law_0_6 : FS := (sSeq S_law_0_6_0
    (sSeq S_law_0_6_1
    S_law_0_6_2))
abbrev S_law_0_6 : FS := (sFor (lSeq (eCall F_asks (aCons (eV 3) (aCons (eTup lNil) aNil)))) (gTup 3 (gCons (gN 7) (gCons (gN 8) (gCons (gN 9) gNil)))) L_law_0_6)
abbrev L_law_0 : FS := (sSeq S_law_0_0
    (sSeq S_law_0_1
    (sSeq S_law_0_2
    (sSeq S_law_0_3
    (sSeq S_law_0_4
    (sSeq S_law_0_5
    S_law_0_6))))))
abbrev S_law_0 : FS := (sFor (lSeq (eOp dAdd (eFz (nLst (lCons (eC (.int 0)) lNil))) (eSl (eV 0) oNone (oSome (eC (.int 5)))))) (gN 1) L_law_0)
abbrev S_law_1 : FS := (sRet (eC (.bool true)))
abbrev s_law : Stmt := top 28
theorem sc_law : FnScope ["script", "cell", "deck", "ware", "kept", "there", "extras", "name", "span", "wanted", "more", "extra", "needs", "need", "one"] ["script"] (defScope s_law) := ⟨rfl, rfl, rfl, by decide +kernel, rfl, by decide +kernel, by decide +kernel⟩
def B_law : FS := (sSeq S_law_0
    S_law_1)
def F_law : FnS := callF 15 B_law
structure Txt (K : Fg) (mg : Str → Option Value) : Prop where
  n_isinstance : mg "isinstance" = none
  n_len : mg "len" = none
  n_list : mg "list" = none
  n_max : mg "max" = none
  n_min : mg "min" = none
  n_range : mg "range" = none
  n_set : mg "set" = none
  n_sorted : mg "sorted" = none
  n_str : mg "str" = none
  n_tuple : mg "tuple" = none
  n_zip : mg "zip" = none
  a_place_of : At K mg "place_of" s_place_of ["edition"]
  a_edition_at : At K mg "edition_at" s_edition_at ["place"]
  a_spans_of : At K mg "spans_of" s_spans_of ["one"]
  a_joined : At K mg "joined" s_joined ["spans"]
  a_both : At K mg "both" s_both ["one", "other"]
  a_is_within : At K mg "is_within" s_is_within ["one", "other"]
  a_asks : At K mg "asks" s_asks ["ware", "extras"]
  a__law_deck : At K mg "_law_deck" s__law_deck ["cell", "turn"]
  a__law_pick : At K mg "_law_pick" s__law_pick ["deck", "many"]
  a__law_edition : At K mg "_law_edition" s__law_edition ["deck"]
  a__law_place : At K mg "_law_place" s__law_place ["edition"]
  a__law_at : At K mg "_law_at" s__law_at ["place"]
  a__law_joined : At K mg "_law_joined" s__law_joined ["spans"]
  a__law_span : At K mg "_law_span" s__law_span ["deck"]
  a__law_need : At K mg "_law_need" s__law_need ["deck", "name", "extras"]
  a__law_needs : At K mg "_law_needs" s__law_needs ["deck", "names", "limit"]
  a__law_ware : At K mg "_law_ware" s__law_ware ["deck", "name", "edition", "names"]
  a__law_in : At K mg "_law_in" s__law_in ["span", "place"]
  a__law_near : At K mg "_law_near" s__law_near ["spans"]
  a__law_asked : At K mg "_law_asked" s__law_asked ["ware", "extras"]
  a__law_right : At K mg "_law_right" s__law_right ["ware", "extras"]
  a_law : At K mg "law" s_law ["script"]
section
variable {P : Program} {K : Fg} {mg : Str → Option Value} {base : Heap}
theorem ok_place_of (T : Txt K mg)  : Ok P K mg base 1 "place_of" ["edition"] F_place_of :=
  mk_ok (k := 0) T.a_place_of sc_place_of fun f cdv A outer s H E hr => (b1 (sret (xop opAdd (xop opAdd (xop opMul (xix (ixD hr.units) (xv 0) xi) xi) (xop opMul (xix (ixD hr.units) (xv 0) xi) xi)) (xix (ixD hr.units) (xv 0) xi))))
theorem ok_edition_at (T : Txt K mg)  : Ok P K mg base 1 "edition_at" ["place"] F_edition_at :=
  mk_ok (k := 0) T.a_edition_at sc_edition_at fun f cdv A outer s H E hr => (b1 (sret (xt (ac (xop opDiv (xv 0) xi) (ac (xop opMod (xop opDiv (xv 0) xi) xi) (ac (xop opMod (xv 0) xi) an))))))
theorem ok_spans_of (T : Txt K mg) (h_place_of : Ok P K mg base 1 "place_of" ["edition"] F_place_of) : Ok P K mg base 2 "spans_of" ["one"] F_spans_of :=
  mk_ok (k := 1) T.a_spans_of sc_spans_of fun f cdv A outer s H E hr => (b1 (sret (pe_fz (xlc [("low", 1), ("high", 2)] sc_spans_of.nd (iseq (xv 0)) (by kernel_rfl) (fun _ _ _ _ _ => (gt rfl (gsc (gn 1 sc_spans_of.nd) (gsc (gn 2 sc_spans_of.nd) gsn)))) (fun _ _ _ _ _ => tyes) (fun _ _ _ _ _ => (xt (ac (xc h_place_of (hr.mono (by decide)) (ac' (xv 1) an') (lc ln)) (ac (xc h_place_of (hr.mono (by decide)) (ac' (xv 2) an') (lc ln)) an))))))))
theorem ok_joined (T : Txt K mg) (h_edition_at : Ok P K mg base 1 "edition_at" ["place"] F_edition_at) : Ok P K mg base 2 "joined" ["spans"] F_joined :=
  mk_ok (k := 1) T.a_joined sc_joined fun f cdv A outer s H E hr => (bc (sown 1 sc_joined.nd (xl an))
    (bc (sfor (ws := [2, 3]) PassesOwn.never rfl (iseq (pe_fz (xcbN (cSortedN rfl hr.units) T.n_sorted bt_sorted (ac (xv 0) an)))) (gt rfl (gsc (gn 2 sc_joined.nd) (gsc (gn 3 sc_joined.nd) gsn))) (b1 (sif (PW.pt (tand (tpkl 1 (opNe hr.units) (pv 1) (pe_fz (xl an))) (tand1 (tcmp (opLe hr.units) (xv 2) (xop opAdd (xix (ixD hr.units) (xoix 1 (pe_ix ix_list (pv 1) (xun unNeg xi) (fun _ _ => rfl))) xi) xi))))) (b1 (ssetL 1 (ps_asg (xt (ac (xix (ixD hr.units) (xoix 1 (pe_ix ix_list (pv 1) (xun unNeg xi) (fun _ _ => rfl))) xi) (ac (xcb (cMax rfl) T.n_max bt_max (ac (xix (ixD hr.units) (xoix 1 (pe_ix ix_list (pv 1) (xun unNeg xi) (fun _ _ => rfl))) xi) (ac (xv 3) an))) an))) (pg_sub (pv 1) (xun unNeg xi) set_list)))) (b1 (sif (tcmp (opLe hr.units) (xv 2) (xv 3)) (b1 (sapp 1 (ps_expr (pe_bm PySem.F.plainAttrs_list PySem.F.slot_list_append PySem.F.type_list_append mt_append (pv 1) (pa_cons (xt (ac (xv 2) (ac (xv 3) an))) pa_nil))))) bn)))))
    (b1 (sret (xct cTuple T.n_tuple bt_tuple (ac (pe_fz (xlc [("low", 2), ("high", 3)] sc_joined.nd (iseq (xvf 1)) (by kernel_rfl) (fun _ _ _ _ _ => (gt rfl (gsc (gn 2 sc_joined.nd) (gsc (gn 3 sc_joined.nd) gsn)))) (fun _ _ _ _ _ => tyes) (fun _ _ _ _ _ => (xt (ac (xc h_edition_at (hr.mono (by decide)) (ac' (xv 2) an') (lc ln)) (ac (xc h_edition_at (hr.mono (by decide)) (ac' (xv 3) an') (lc ln)) an)))))) an))))))
theorem ok_both (T : Txt K mg) (h_joined : Ok P K mg base 2 "joined" ["spans"] F_joined) (h_spans_of : Ok P K mg base 2 "spans_of" ["one"] F_spans_of) : Ok P K mg base 3 "both" ["one", "other"] F_both :=
  mk_ok (k := 2) T.a_both sc_both fun f cdv A outer s H E hr => (bc (sfz (fun I => I.slen) (xsetLc2 2 [("a", 3), ("b", 4)] sc_both.nd (iseq (xc h_spans_of (hr.mono (by decide)) (ac' (xv 0) an') (lc ln))) (by kernel_rfl) (by decide) (fun _ _ _ _ _ => (gn 3 sc_both.nd)) (fun _ _ _ _ _ => tyes) (fun _ _ _ _ _ => (iseq (xc h_spans_of (hr.mono (by decide)) (ac' (xv 1) an') (lc ln)))) (fun _ _ _ _ _ => (gn 4 sc_both.nd)) (fun _ _ _ _ _ => tyes) (fun _ _ _ _ _ => (xt (ac (xcb (cMax rfl) T.n_max bt_max (ac (xix (ixD hr.units) (xv 3) xi) (ac (xix (ixD hr.units) (xv 4) xi) an))) (ac (xcb (cMin rfl) T.n_min bt_min (ac (xix (ixD hr.units) (xv 3) xi) (ac (xix (ixD hr.units) (xv 4) xi) an))) an)))) rfl))
    (b1 (sret (xc h_joined (hr.mono (by decide)) (ac' (pe_fz (xlc [("span", 5)] sc_both.nd (iseq (xv 2)) (by kernel_rfl) (fun _ _ _ _ _ => (gn 5 sc_both.nd)) (fun _ _ _ _ _ => (pts_one (tcmp (opLe hr.units) (xix (ixD hr.units) (xv 5) xi) (xix (ixD hr.units) (xv 5) xi)))) (fun _ _ _ _ _ => (xv 5)))) an') (lc ln)))))
theorem ok_is_within (T : Txt K mg) (h_both : Ok P K mg base 3 "both" ["one", "other"] F_both) : Ok P K mg base 4 "is_within" ["one", "other"] F_is_within :=
  mk_ok (k := 3) T.a_is_within sc_is_within fun f cdv A outer s H E hr => (b1 (sret (xcmp (opEq hr.units) (xc h_both (hr.mono (by decide)) (ac' (xv 0) (ac' (xv 1) an')) (lc (lc ln))) (xv 0))))
theorem ok_asks (T : Txt K mg) (h_both : Ok P K mg base 3 "both" ["one", "other"] F_both) : Ok P K mg base 4 "asks" ["ware", "extras"] F_asks :=
  mk_ok (k := 3) T.a_asks sc_asks fun f cdv A outer s H E hr => (bc (sown 2 sc_asks.nd xdct)
    (bc (sfor (ws := [3]) PassesOwn.never rfl (iseq (xop opAdd (pe_fz (xl (ac (xix (ixD hr.units) (xv 0) xi) an))) (pe_fz (xlc [("extra", 7), ("more", 8)] sc_asks.nd (iseq (xix (ixD hr.units) (xv 0) xi)) (by kernel_rfl) (fun _ _ _ _ _ => (gt rfl (gsc (gn 7 sc_asks.nd) (gsc (gn 8 sc_asks.nd) gsn)))) (fun _ _ _ _ _ => (pts_one (tcmp (opIn hr.units) (xv 7) (xv 1)))) (fun _ _ _ _ _ => (xv 8)))))) (gn 3 sc_asks.nd) (b1 (sfor (ws := [4, 5, 6]) PassesOwn.never rfl (iseq (xv 3)) (gt rfl (gsc (gn 4 sc_asks.nd) (gsc (gn 5 sc_asks.nd) (gsc (gn 6 sc_asks.nd) gsn)))) (bc (sif (tpkr 2 (opIn hr.units) (xv 4) (pv 2)) (bc (sset 5 sc_asks.nd (xc h_both (hr.mono (by decide)) (ac' (xix (ixD hr.units) (xoixD 2 (pe_ix (ixOD hr.units) (pv 2) (xv 4) (fun _ _ => rfl))) xi) (ac' (xv 5) an')) (lc (lc ln))))
    (b1 (sset 6 sc_asks.nd (xct cTuple T.n_tuple bt_tuple (ac (pe_fz (xssA rfl T.n_sorted T.n_set (xop opAdd (xix (ixD hr.units) (xoixD 2 (pe_ix (ixOD hr.units) (pv 2) (xv 4) (fun _ _ => rfl))) xi) (xv 6)))) an))))) bn)
    (b1 (ssetD 2 (ps_asg (xt (ac (xv 4) (ac (xv 5) (ac (xv 6) an)))) (pg_sub (pv 2) (xv 4) (set_dict hr.units)))))))))
    (b1 (sret (xct cTuple T.n_tuple bt_tuple (ac (pe_fz (xlc [("name", 4)] sc_asks.nd (iseq (pe_fz (xcbN (cSortedN rfl hr.units) T.n_sorted bt_sorted (ac (xvf 2) an)))) (by kernel_rfl) (fun _ _ _ _ _ => (gn 4 sc_asks.nd)) (fun _ _ _ _ _ => tyes) (fun _ _ _ _ _ => (xix (ixD hr.units) (xv 2) (xv 4))))) an))))))
theorem ok__law_deck (T : Txt K mg)  : Ok P K mg base 1 "_law_deck" ["cell", "turn"] F__law_deck :=
  mk_ok (k := 0) T.a__law_deck sc__law_deck fun f cdv A outer s H E hr => (bc (sif (tcmp (opGe hr.units) (xv 0) (xop opPow xi xi)) (b1 (sretN (xl (ac (xop opSub (xv 0) (xop opPow xi xi)) (ac (xop opMod (xv 0) xi) (ac (xv 1) an)))))) bn)
    (b1 (sretN (xl (ac xi (ac (xop opMod (xv 0) xi) (ac (xv 1) an)))))))
theorem ok__law_pick (T : Txt K mg)  : Ok P K mg base 1 "_law_pick" ["deck", "many"] F__law_pick :=
  mk_ok (k := 0) T.a__law_pick sc__law_pick fun f cdv A outer s H E hr => (bc (sif (tcmp (opGt hr.units) (xoix 0 (pe_ix ix_list (pv 0) xi (fun _ _ => rfl))) xi) (bc (sset 2 sc__law_pick.nd (xop opMod (xoix 0 (pe_ix ix_list (pv 0) xi (fun _ _ => rfl))) (xv 1)))
    (bc (ssetL 0 (ps_asg (xop opDiv (xoix 0 (pe_ix ix_list (pv 0) xi (fun _ _ => rfl))) (xv 1)) (pg_sub (pv 0) xi set_list)))
    (b1 (sret (xv 2))))) bn)
    (bc (ssetL 0 (ps_asg (xop opAdd (xoix 0 (pe_ix ix_list (pv 0) xi (fun _ _ => rfl))) xi) (pg_sub (pv 0) xi set_list)))
    (bc (sset 3 sc__law_pick.nd (xop opMod (xop opPow (xop opAdd (xoix 0 (pe_ix ix_list (pv 0) xi (fun _ _ => rfl))) (xop opMul xi (xoix 0 (pe_ix ix_list (pv 0) xi (fun _ _ => rfl))))) xi) xi))
    (bc (sset 2 sc__law_pick.nd (xop opDiv (xop opMod (xop opPow (xop opAdd (xv 3) (xop opMul xi (xoix 0 (pe_ix ix_list (pv 0) xi (fun _ _ => rfl))))) xi) xi) xi))
    (bc (sif (tcmp (opGt hr.units) (xv 1) xi) (b1 (sret (xop opMod (xop opAdd (xop opMul (xv 2) xi) (xv 3)) (xv 1)))) bn)
    (b1 (sret (xop opMod (xv 2) (xv 1)))))))))
theorem ok__law_edition (T : Txt K mg) (h__law_pick : Ok P K mg base 1 "_law_pick" ["deck", "many"] F__law_pick) : Ok P K mg base 2 "_law_edition" ["deck"] F__law_edition :=
  mk_ok (k := 1) T.a__law_edition sc__law_edition fun f cdv A outer s H E hr => (bc (sset 1 sc__law_edition.nd (xc h__law_pick (hr.mono (by decide)) (ar 0 (ac' xi an')) (lr (lc ln))))
    (bc (sif (tcmp (opLt hr.units) (xv 1) xi) (b1 (sret (xt (ac (xc h__law_pick (hr.mono (by decide)) (ar 0 (ac' xi an')) (lr (lc ln))) (ac (xc h__law_pick (hr.mono (by decide)) (ar 0 (ac' xi an')) (lr (lc ln))) (ac xi an)))))) bn)
    (bc (sset 2 sc__law_edition.nd (pe_fz (xl (ac xi (ac xi (ac xi (ac (xc h__law_pick (hr.mono (by decide)) (ar 0 (ac' xi an')) (lr (lc ln))) an)))))))
    (b1 (sret (xt (ac (xix (ixD hr.units) (xv 2) (xc h__law_pick (hr.mono (by decide)) (ar 0 (ac' xi an')) (lr (lc ln)))) (ac (xix (ixD hr.units) (xv 2) (xc h__law_pick (hr.mono (by decide)) (ar 0 (ac' xi an')) (lr (lc ln)))) (ac (xix (ixD hr.units) (xv 2) (xc h__law_pick (hr.mono (by decide)) (ar 0 (ac' xi an')) (lr (lc ln)))) an)))))))))
theorem ok__law_place (T : Txt K mg)  : Ok P K mg base 1 "_law_place" ["edition"] F__law_place :=
  mk_ok (k := 0) T.a__law_place sc__law_place fun f cdv A outer s H E hr => (b1 (sret (xop opAdd (xop opAdd (xop opMul (xix (ixD hr.units) (xv 0) xi) xi) (xop opMul (xix (ixD hr.units) (xv 0) xi) xi)) (xix (ixD hr.units) (xv 0) xi))))
theorem ok__law_at (T : Txt K mg)  : Ok P K mg base 1 "_law_at" ["place"] F__law_at :=
  mk_ok (k := 0) T.a__law_at sc__law_at fun f cdv A outer s H E hr => (b1 (sret (xt (ac (xop opDiv (xv 0) xi) (ac (xop opMod (xop opDiv (xv 0) xi) xi) (ac (xop opMod (xv 0) xi) an))))))
theorem ok__law_joined (T : Txt K mg) (h__law_at : Ok P K mg base 1 "_law_at" ["place"] F__law_at) : Ok P K mg base 2 "_law_joined" ["spans"] F__law_joined :=
  mk_ok (k := 1) T.a__law_joined sc__law_joined fun f cdv A outer s H E hr => (bc (sown 1 sc__law_joined.nd (xl an))
    (bc (sfor (ws := [2, 3]) PassesOwn.never rfl (iseq (pe_fz (xcbN (cSortedN rfl hr.units) T.n_sorted bt_sorted (ac (xv 0) an)))) (gt rfl (gsc (gn 2 sc__law_joined.nd) (gsc (gn 3 sc__law_joined.nd) gsn))) (b1 (sif (PW.pt (tand (tpkl 1 (opNe hr.units) (pv 1) (pe_fz (xl an))) (tand1 (tcmp (opLe hr.units) (xv 2) (xop opAdd (xix (ixD hr.units) (xoix 1 (pe_ix ix_list (pv 1) (xun unNeg xi) (fun _ _ => rfl))) xi) xi))))) (b1 (ssetL 1 (ps_asg (xt (ac (xix (ixD hr.units) (xoix 1 (pe_ix ix_list (pv 1) (xun unNeg xi) (fun _ _ => rfl))) xi) (ac (xcb (cMax rfl) T.n_max bt_max (ac (xv 3) (ac (xix (ixD hr.units) (xoix 1 (pe_ix ix_list (pv 1) (xun unNeg xi) (fun _ _ => rfl))) xi) an))) an))) (pg_sub (pv 1) (xun unNeg xi) set_list)))) (b1 (sapp 1 (ps_expr (pe_bm PySem.F.plainAttrs_list PySem.F.slot_list_append PySem.F.type_list_append mt_append (pv 1) (pa_cons (xt (ac (xv 2) (ac (xv 3) an))) pa_nil))))))))
    (b1 (sret (xct cTuple T.n_tuple bt_tuple (ac (pe_fz (xlc [("low", 2), ("high", 3)] sc__law_joined.nd (iseq (xvf 1)) (by kernel_rfl) (fun _ _ _ _ _ => (gt rfl (gsc (gn 2 sc__law_joined.nd) (gsc (gn 3 sc__law_joined.nd) gsn)))) (fun _ _ _ _ _ => tyes) (fun _ _ _ _ _ => (xt (ac (xc h__law_at (hr.mono (by decide)) (ac' (xv 2) an') (lc ln)) (ac (xc h__law_at (hr.mono (by decide)) (ac' (xv 3) an') (lc ln)) an)))))) an))))))
theorem ok__law_span (T : Txt K mg) (h__law_pick : Ok P K mg base 1 "_law_pick" ["deck", "many"] F__law_pick) (h__law_joined : Ok P K mg base 2 "_law_joined" ["spans"] F__law_joined) (h__law_place : Ok P K mg base 1 "_law_place" ["edition"] F__law_place) (h__law_edition : Ok P K mg base 2 "_law_edition" ["deck"] F__law_edition) (h__law_at : Ok P K mg base 1 "_law_at" ["place"] F__law_at) : Ok P K mg base 3 "_law_span" ["deck"] F__law_span :=
  mk_ok (k := 2) T.a__law_span sc__law_span fun f cdv A outer s H E hr => (bc (sset 1 sc__law_span.nd (xc h__law_pick (hr.mono (by decide)) (ar 0 (ac' xi an')) (lr (lc ln))))
    (bc (sasgL (ws := [2, 3]) (ps_asg (pe_fz (xcbN (cSortedN rfl hr.units) T.n_sorted bt_sorted (ac (pe_fz (xl (ac (xc h__law_place (hr.mono (by decide)) (ac' (xc h__law_edition (hr.mono (by decide)) (ar 0 an') (lr ln)) an') (lc ln)) (ac (xc h__law_place (hr.mono (by decide)) (ac' (xc h__law_edition (hr.mono (by decide)) (ar 0 an') (lr ln)) an') (lc ln)) an)))) an))) (pg_lst rfl (gsc (gn 2 sc__law_span.nd) (gsc (gn 3 sc__law_span.nd) gsn)))))
    (bc (sif (tcmp (opLt hr.units) (xv 1) xi) (b1 (sret (xt (ac (xt (ac (xt (ac xi (ac xi (ac xi an)))) (ac (xt (ac xi (ac xi (ac xi an)))) an))) an)))) bn)
    (bc (sif (tcmp (opEq hr.units) (xv 1) xi) (b1 (sret (xt (ac (xt (ac (xc h__law_at (hr.mono (by decide)) (ac' (xv 2) an') (lc ln)) (ac (xt (ac xi (ac xi (ac xi an)))) an))) an)))) bn)
    (bc (sif (tcmp (opEq hr.units) (xv 1) xi) (b1 (sret (xt (ac (xt (ac (xt (ac xi (ac xi (ac xi an)))) (ac (xc h__law_at (hr.mono (by decide)) (ac' (xv 3) an') (lc ln)) an))) an)))) bn)
    (bc (sif (tcmp (opLt hr.units) (xv 1) xi) (b1 (sret (xt (ac (xt (ac (xc h__law_at (hr.mono (by decide)) (ac' (xv 2) an') (lc ln)) (ac (xc h__law_at (hr.mono (by decide)) (ac' (xv 3) an') (lc ln)) an))) an)))) bn)
    (bc (sif (tcmp (opEq hr.units) (xv 1) xi) (bc (sset 4 sc__law_span.nd (xc h__law_place (hr.mono (by decide)) (ac' (xc h__law_edition (hr.mono (by decide)) (ar 0 an') (lr ln)) an') (lc ln)))
    (b1 (sret (xc h__law_joined (hr.mono (by decide)) (ac' (pe_fz (xl (ac (xt (ac (xv 2) (ac (xv 2) an))) (ac (xt (ac (xv 3) (ac (xv 3) an))) (ac (xt (ac (xv 4) (ac (xcb (cMin rfl) T.n_min bt_min (ac xi (ac (xop opAdd (xv 4) (xc h__law_pick (hr.mono (by decide)) (ar 0 (ac' xi an')) (lr (lc ln)))) an))) an))) an))))) an') (lc ln))))) bn)
    (b1 (sret (xc h__law_joined (hr.mono (by decide)) (ac' (xop opMul (pe_fz (xl (ac (xt (ac (xv 2) (ac (xv 3) an))) an))) (xc h__law_pick (hr.mono (by decide)) (ar 0 (ac' xi an')) (lr (lc ln)))) an') (lc ln)))))))))))
theorem ok__law_need (T : Txt K mg) (h__law_span : Ok P K mg base 3 "_law_span" ["deck"] F__law_span) (h__law_pick : Ok P K mg base 1 "_law_pick" ["deck", "many"] F__law_pick) : Ok P K mg base 4 "_law_need" ["deck", "name", "extras"] F__law_need :=
  mk_ok (k := 3) T.a__law_need sc__law_need fun f cdv A outer s H E hr => (bc (sfz (fun I => I.slen) (xsetLc 3 [("extra", 4)] sc__law_need.nd (iseq (xv 2)) (by kernel_rfl) (fun _ _ _ _ _ => (gn 4 sc__law_need.nd)) (fun _ _ _ _ _ => (pts_one (tcmp (opEq hr.units) (xc h__law_pick (hr.mono (by decide)) (ar 0 (ac' xi an')) (lr (lc ln))) xi))) (fun _ _ _ _ _ => (xv 4)) rfl))
    (b1 (sret (xt (ac (xv 1) (ac (xc h__law_span (hr.mono (by decide)) (ar 0 an') (lr ln)) (ac (xct cTuple T.n_tuple bt_tuple (ac (xv 3) an)) an)))))))
theorem ok__law_needs (T : Txt K mg) (h__law_pick : Ok P K mg base 1 "_law_pick" ["deck", "many"] F__law_pick) (h__law_need : Ok P K mg base 4 "_law_need" ["deck", "name", "extras"] F__law_need) : Ok P K mg base 5 "_law_needs" ["deck", "names", "limit"] F__law_needs :=
  mk_ok (k := 4) T.a__law_needs sc__law_needs fun f cdv A outer s H E hr => (bc (sown 3 sc__law_needs.nd xdct)
    (bc (sfor (ws := [4]) PassesOwn.never rfl (irng1 T.n_range (ac (xc h__law_pick (hr.mono (by decide)) (ar 0 (ac' (xop opAdd (xv 2) xi) an')) (lr (lc ln))) an)) (gn 4 sc__law_needs.nd) (b1 (sif (tcmp (opNe hr.units) (xv 1) (pe_fz (xl an))) (bc (sset 5 sc__law_needs.nd (xix (ixD hr.units) (xv 1) (xc h__law_pick (hr.mono (by decide)) (ar 0 (ac' (xcb cLen T.n_len bt_len (ac (xv 1) an)) an')) (lr (lc ln)))))
    (b1 (ssetD 3 (ps_asg (xc h__law_need (hr.mono (by decide)) (ar 0 (ac' (xv 5) (ac' (pe_fz (xl (ac xs (ac xs an)))) an'))) (lr (lc (lc ln)))) (pg_sub (pv 3) (xv 5) (set_dict hr.units)))))) bn)))
    (b1 (sret (xct cTuple T.n_tuple bt_tuple (ac (pe_fz (xlc [("name", 5)] sc__law_needs.nd (iseq (pe_fz (xcbN (cSortedN rfl hr.units) T.n_sorted bt_sorted (ac (xvf 3) an)))) (by kernel_rfl) (fun _ _ _ _ _ => (gn 5 sc__law_needs.nd)) (fun _ _ _ _ _ => tyes) (fun _ _ _ _ _ => (xix (ixD hr.units) (xv 3) (xv 5))))) an))))))
theorem ok__law_ware (T : Txt K mg) (h__law_needs : Ok P K mg base 5 "_law_needs" ["deck", "names", "limit"] F__law_needs) (h__law_pick : Ok P K mg base 1 "_law_pick" ["deck", "many"] F__law_pick) : Ok P K mg base 6 "_law_ware" ["deck", "name", "edition", "names"] F__law_ware :=
  mk_ok (k := 5) T.a__law_ware sc__law_ware fun f cdv A outer s H E hr => (bc (sfz (fun I => I.slen) (xsetLc 4 [("one", 10)] sc__law_ware.nd (iseq (xv 3)) (by kernel_rfl) (fun _ _ _ _ _ => (gn 10 sc__law_ware.nd)) (fun _ _ _ _ _ => (pts_one (tcmp (opNe hr.units) (xv 10) (xv 1)))) (fun _ _ _ _ _ => (xv 10)) rfl))
    (bc (sown 5 sc__law_ware.nd (xl an))
    (bc (sfor (ws := [6]) PassesOwn.never rfl (iseq (pe_fz (xl (ac xs (ac xs an))))) (gn 6 sc__law_ware.nd) (b1 (sif (tcmp (opEq hr.units) (xc h__law_pick (hr.mono (by decide)) (ar 0 (ac' xi an')) (lr (lc ln))) xi) (b1 (sapp 5 (ps_expr (pe_bm PySem.F.plainAttrs_list PySem.F.slot_list_append PySem.F.type_list_append mt_append (pv 5) (pa_cons (xt (ac (xv 6) (ac (xc h__law_needs (hr.mono (by decide)) (ar 0 (ac' (xv 4) (ac' xi an'))) (lr (lc (lc ln)))) an))) pa_nil))))) bn)))
    (bc (sset 7 sc__law_ware.nd (xop opAdd (xop opAdd (xop opAdd (xv 1) (xct cStr T.n_str bt_str (ac (xix (ixD hr.units) (xv 2) xi) an))) (xct cStr T.n_str bt_str (ac (xix (ixD hr.units) (xv 2) xi) an))) (xix (ixD hr.units) (pe_fz (xl (ac xs (ac xs (ac xs (ac xs an)))))) (xc h__law_pick (hr.mono (by decide)) (ar 0 (ac' xi an')) (lr (lc ln))))))
    (bc (sset 8 sc__law_ware.nd (xt (ac (xt (ac (xop opAdd (xv 1) xs) (ac (xv 7) an))) (ac (xt (ac (xop opAdd (xv 1) xs) (ac (xix (ixD hr.units) (pe_fz (xl (ac xs (ac xs an)))) (xc h__law_pick (hr.mono (by decide)) (ar 0 (ac' xi an')) (lr (lc ln)))) an))) an))))
    (bc (sset 9 sc__law_ware.nd (pe_fz (xl (ac (xt (ac xs (ac (xop opAdd (xv 1) xs) (ac (xrev (xv 7)) an)))) (ac (xt (ac xs (ac (xop opAdd (xv 1) xs) (ac (xt (ac (xop opAdd (xv 1) xs) (ac (xop opAdd (xv 1) xs) an))) an)))) (ac (xt (ac xs (ac (xop opAdd (xv 1) xs) an))) an))))))
    (b1 (sret (xt (ac (xv 1) (ac (xv 2) (ac (xc h__law_needs (hr.mono (by decide)) (ar 0 (ac' (xv 4) (ac' xi an'))) (lr (lc (lc ln)))) (ac (xct cTuple T.n_tuple bt_tuple (ac (xvf 5) an)) (ac (xv 8) (ac (xct cTuple T.n_tuple bt_tuple (ac (xsl (xv 9) on (os (xc h__law_pick (hr.mono (by decide)) (ar 0 (ac' xi an')) (lr (lc ln))))) an)) an)))))))))))))))
theorem ok__law_in (T : Txt K mg) (h__law_place : Ok P K mg base 1 "_law_place" ["edition"] F__law_place) : Ok P K mg base 2 "_law_in" ["span", "place"] F__law_in :=
  mk_ok (k := 1) T.a__law_in sc__law_in fun f cdv A outer s H E hr => (b1 (sret (xcmp (opNe hr.units) (pe_fz (xlc [("pair", 2)] sc__law_in.nd (iseq (xv 0)) (by kernel_rfl) (fun _ _ _ _ _ => (gn 2 sc__law_in.nd)) (fun _ _ _ _ _ => (pts_one (tch (opLe hr.units) (opLe hr.units) (xc h__law_place (hr.mono (by decide)) (ac' (xix (ixD hr.units) (xv 2) xi) an') (lc ln)) (xv 1) (xc h__law_place (hr.mono (by decide)) (ac' (xix (ixD hr.units) (xv 2) xi) an') (lc ln))))) (fun _ _ _ _ _ => (xv 2)))) (pe_fz (xl an)))))
theorem ok__law_near (T : Txt K mg) (h__law_place : Ok P K mg base 1 "_law_place" ["edition"] F__law_place) : Ok P K mg base 2 "_law_near" ["spans"] F__law_near :=
  mk_ok (k := 1) T.a__law_near sc__law_near fun f cdv A outer s H E hr => (bc (sset 1 sc__law_near.nd (pe_fz (xl (ac xi (ac xi an)))))
    (bc (sfor (ws := [2]) PassesOwn.never rfl (iseq (xv 0)) (gn 2 sc__law_near.nd) (b1 (sfor (ws := [3, 4]) PassesOwn.never rfl (iseq (xv 2)) (gt rfl (gsc (gn 3 sc__law_near.nd) (gsc (gn 4 sc__law_near.nd) gsn))) (b1 (sset 1 sc__law_near.nd (xop opAdd (xop opAdd (xv 1) (pe_fz (xlc [("k", 8)] sc__law_near.nd (iseq (xt (ac (xun unNeg xi) (ac xi (ac xi an))))) (by kernel_rfl) (fun _ _ _ _ _ => (gn 8 sc__law_near.nd)) (fun _ _ _ _ _ => tyes) (fun _ _ _ _ _ => (xop opAdd (xc h__law_place (hr.mono (by decide)) (ac' (xv 3) an') (lc ln)) (xv 8)))))) (pe_fz (xlc [("k", 8)] sc__law_near.nd (iseq (xt (ac (xun unNeg xi) (ac xi (ac xi an))))) (by kernel_rfl) (fun _ _ _ _ _ => (gn 8 sc__law_near.nd)) (fun _ _ _ _ _ => tyes) (fun _ _ _ _ _ => (xop opAdd (xc h__law_place (hr.mono (by decide)) (ac' (xv 4) an') (lc ln)) (xv 8)))))))))))
    (bc (sset 1 sc__law_near.nd (pe_fz (xssB rfl T.n_sorted T.n_set (pe_fz (xlc [("place", 7)] sc__law_near.nd (iseq (xv 1)) (by kernel_rfl) (fun _ _ _ _ _ => (gn 7 sc__law_near.nd)) (fun _ _ _ _ _ => (pts_one (tch (opLe hr.units) (opLe hr.units) xi (xv 7) xi))) (fun _ _ _ _ _ => (xv 7)))))))
    (b1 (sret (xop opAdd (xv 1) (pe_fz (xlc [("one", 5), ("other", 6)] sc__law_near.nd (izip T.n_zip (ac (xv 1) (ac (xsl (xv 1) (os xi) on) an))) (by kernel_rfl) (fun _ _ _ _ _ => (gt rfl (gsc (gn 5 sc__law_near.nd) (gsc (gn 6 sc__law_near.nd) gsn)))) (fun _ _ _ _ _ => tyes) (fun _ _ _ _ _ => (xop opDiv (xop opAdd (xv 5) (xv 6)) xi))))))))))
theorem ok__law_asked (T : Txt K mg)  : Ok P K mg base 1 "_law_asked" ["ware", "extras"] F__law_asked :=
  mk_ok (k := 0) T.a__law_asked sc__law_asked fun f cdv A outer s H E hr => (bc (sset 2 sc__law_asked.nd (pe_fz (xctN (cListN rfl) T.n_list bt_list (ac (xix (ixD hr.units) (xv 0) xi) an))))
    (bc (sfor (ws := [3, 4]) PassesOwn.never rfl (iseq (xix (ixD hr.units) (xv 0) xi)) (gt rfl (gsc (gn 3 sc__law_asked.nd) (gsc (gn 4 sc__law_asked.nd) gsn))) (b1 (sif (tcmp (opIn hr.units) (xv 3) (xv 1)) (b1 (sset 2 sc__law_asked.nd (xop opAdd (xv 2) (pe_fz (xctN (cListN rfl) T.n_list bt_list (ac (xv 4) an)))))) bn)))
    (b1 (sret (xv 2)))))
theorem ok__law_right (T : Txt K mg) (h_asks : Ok P K mg base 4 "asks" ["ware", "extras"] F_asks) (h__law_asked : Ok P K mg base 1 "_law_asked" ["ware", "extras"] F__law_asked) (h__law_near : Ok P K mg base 2 "_law_near" ["spans"] F__law_near) (h__law_in : Ok P K mg base 2 "_law_in" ["span", "place"] F__law_in) : Ok P K mg base 5 "_law_right" ["ware", "extras"] F__law_right :=
  mk_ok (k := 4) T.a__law_right sc__law_right fun f cdv A outer s H E hr => (bc (sset 2 sc__law_right.nd (xc h_asks (hr.mono (by decide)) (ac' (xv 0) (ac' (xv 1) an')) (lc (lc ln))))
    (bc (sset 3 sc__law_right.nd (xc h__law_asked (hr.mono (by decide)) (ac' (xv 0) (ac' (xv 1) an')) (lc (lc ln))))
    (bc (sset 4 sc__law_right.nd (pe_fz (xssA rfl T.n_sorted T.n_set (pe_fz (xlc [("need", 12)] sc__law_right.nd (iseq (xv 3)) (by kernel_rfl) (fun _ _ _ _ _ => (gn 12 sc__law_right.nd)) (fun _ _ _ _ _ => tyes) (fun _ _ _ _ _ => (xix (ixD hr.units) (xv 12) xi)))))))
    (bc (sif (PW.pt (tor (tnot (tv (xis (.inr (.inr (.inr (.inr rfl)))) (xv 2) T.n_isinstance T.n_tuple bt_tuple))) (tor1 (tcmp (opNe hr.units) (pe_fz (xlc [("need", 12)] sc__law_right.nd (iseq (xv 2)) (by kernel_rfl) (fun _ _ _ _ _ => (gn 12 sc__law_right.nd)) (fun _ _ _ _ _ => tyes) (fun _ _ _ _ _ => (xix (ixD hr.units) (xv 12) xi)))) (xv 4))))) (b1 (sret xb)) bn)
    (bc (sfor (ws := [5, 6, 7]) PassesOwn.never rfl (iseq (xv 2)) (gt rfl (gsc (gn 5 sc__law_right.nd) (gsc (gn 6 sc__law_right.nd) (gsc (gn 7 sc__law_right.nd) gsn)))) (bc (sfz (fun I => I.slen) (xsetLc 8 [("need", 12)] sc__law_right.nd (iseq (xv 3)) (by kernel_rfl) (fun _ _ _ _ _ => (gn 12 sc__law_right.nd)) (fun _ _ _ _ _ => (pts_one (tcmp (opEq hr.units) (xix (ixD hr.units) (xv 12) xi) (xv 5)))) (fun _ _ _ _ _ => (xv 12)) rfl))
    (bc (sfor (ws := [9]) PassesOwn.never rfl (iseq (xc h__law_near (hr.mono (by decide)) (ac' (xop opAdd (pe_fz (xlc [("need", 12)] sc__law_right.nd (iseq (xv 8)) (by kernel_rfl) (fun _ _ _ _ _ => (gn 12 sc__law_right.nd)) (fun _ _ _ _ _ => tyes) (fun _ _ _ _ _ => (xix (ixD hr.units) (xv 12) xi)))) (pe_fz (xl (ac (xv 6) an)))) an') (lc ln))) (gn 9 sc__law_right.nd) (bc (sfz (fun I => I.slen) (xsetLc 10 [("need", 12)] sc__law_right.nd (iseq (xv 8)) (by kernel_rfl) (fun _ _ _ _ _ => (gn 12 sc__law_right.nd)) (fun _ _ _ _ _ => (pts_one (tnot (tv (xc h__law_in (hr.mono (by decide)) (ac' (xix (ixD hr.units) (xv 12) xi) (ac' (xv 9) an')) (lc (lc ln))))))) (fun _ _ _ _ _ => (xv 12)) rfl))
    (b1 (sif (tcmp (opNe hr.units) (xc h__law_in (hr.mono (by decide)) (ac' (xv 6) (ac' (xv 9) an')) (lc (lc ln))) (xcmp (opEq hr.units) (xv 10) (pe_fz (xl an)))) (b1 (sret xb)) bn))))
    (bc (sown 11 sc__law_right.nd xdct)
    (bc (sfor (ws := [12]) PassesOwn.never rfl (iseq (xv 8)) (gn 12 sc__law_right.nd) (b1 (sfor (ws := [13]) PassesOwn.never rfl (iseq (xix (ixD hr.units) (xv 12) xi)) (gn 13 sc__law_right.nd) (b1 (ssetD 11 (ps_asg xb (pg_sub (pv 11) (xv 13) (set_dict hr.units))))))))
    (b1 (sif (tcmp (opNe hr.units) (xv 7) (xct cTuple T.n_tuple bt_tuple (ac (pe_fz (xcbN (cSortedN rfl hr.units) T.n_sorted bt_sorted (ac (xvf 11) an))) an))) (b1 (sret xb)) bn)))))))
    (b1 (sret xb)))))))
theorem fn_law (T : Txt K mg) {f : Addr} {fd : FuncData} (Fl : Fun K "law" "law" s_law f fd) : FnG P K.w K.k mg base 7 f fd ["script"] (spOf K F_law 1) := by
  have h_place_of : Ok P K mg base 1 "place_of" ["edition"] F_place_of := ok_place_of T 
  have h_edition_at : Ok P K mg base 1 "edition_at" ["place"] F_edition_at := ok_edition_at T 
  have h_spans_of : Ok P K mg base 2 "spans_of" ["one"] F_spans_of := ok_spans_of T h_place_of
  have h_joined : Ok P K mg base 2 "joined" ["spans"] F_joined := ok_joined T h_edition_at
  have h_both : Ok P K mg base 3 "both" ["one", "other"] F_both := ok_both T h_joined h_spans_of
  have h_is_within : Ok P K mg base 4 "is_within" ["one", "other"] F_is_within := ok_is_within T h_both
  have h_asks : Ok P K mg base 4 "asks" ["ware", "extras"] F_asks := ok_asks T h_both
  have h__law_deck : Ok P K mg base 1 "_law_deck" ["cell", "turn"] F__law_deck := ok__law_deck T 
  have h__law_pick : Ok P K mg base 1 "_law_pick" ["deck", "many"] F__law_pick := ok__law_pick T 
  have h__law_edition : Ok P K mg base 2 "_law_edition" ["deck"] F__law_edition := ok__law_edition T h__law_pick
  have h__law_place : Ok P K mg base 1 "_law_place" ["edition"] F__law_place := ok__law_place T 
  have h__law_at : Ok P K mg base 1 "_law_at" ["place"] F__law_at := ok__law_at T 
  have h__law_joined : Ok P K mg base 2 "_law_joined" ["spans"] F__law_joined := ok__law_joined T h__law_at
  have h__law_span : Ok P K mg base 3 "_law_span" ["deck"] F__law_span := ok__law_span T h__law_pick h__law_joined h__law_place h__law_edition h__law_at
  have h__law_need : Ok P K mg base 4 "_law_need" ["deck", "name", "extras"] F__law_need := ok__law_need T h__law_span h__law_pick
  have h__law_needs : Ok P K mg base 5 "_law_needs" ["deck", "names", "limit"] F__law_needs := ok__law_needs T h__law_pick h__law_need
  have h__law_ware : Ok P K mg base 6 "_law_ware" ["deck", "name", "edition", "names"] F__law_ware := ok__law_ware T h__law_needs h__law_pick
  have h__law_in : Ok P K mg base 2 "_law_in" ["span", "place"] F__law_in := ok__law_in T h__law_place
  have h__law_near : Ok P K mg base 2 "_law_near" ["spans"] F__law_near := ok__law_near T h__law_place
  have h__law_asked : Ok P K mg base 1 "_law_asked" ["ware", "extras"] F__law_asked := ok__law_asked T 
  have h__law_right : Ok P K mg base 5 "_law_right" ["ware", "extras"] F__law_right := ok__law_right T h_asks h__law_asked h__law_near h__law_in
  exact fn_okG (N := ["script", "cell", "deck", "ware", "kept", "there", "extras", "name", "span", "wanted", "more", "extra", "needs", "need", "one"]) Fl sc_law fun cdv A outer s H E hg hr => (bc (sfor (ws := [1]) PassesOwn.never rfl (iseq (xop opAdd (pe_fz (xl (ac xi an))) (xsl (xv 0) on (os xi)))) (gn 1 sc_law.nd) (bc (sown 2 sc_law.nd (xcn h__law_deck (hr.mono (by decide)) (ac' (xv 1) (ac' xi an')) (lc (lc ln))))
    (bc (sset 3 sc_law.nd (xc h__law_ware (hr.mono (by decide)) (ar 2 (ac' xs (ac' (xt (ac xi (ac xi (ac xi an)))) (ac' (pe_fz (xl (ac xs (ac xs an)))) an')))) (lr (lc (lc (lc ln))))))
    (bc (sset 4 sc_law.nd (xct (cStrT hg (room_u hr)) T.n_str bt_str (ac (xv 3) an)))
    (bc (sset 5 sc_law.nd (xct cTuple T.n_tuple bt_tuple (ac (pe_fz (xlc [("extra", 11), ("needs", 12)] sc_law.nd (iseq (xix (ixD hr.units) (xv 3) xi)) (by kernel_rfl) (fun _ _ _ _ _ => (gt rfl (gsc (gn 11 sc_law.nd) (gsc (gn 12 sc_law.nd) gsn)))) (fun _ _ _ _ _ => tyes) (fun _ _ _ _ _ => (xv 11)))) an)))
    (bc (sfor (ws := [6]) PassesOwn.never rfl (iseq (pe_fz (xl (ac (xt an) (ac (xv 5) (ac (xsl (xv 5) on (os xi)) (ac (xsl (xv 5) (os xi) on) an))))))) (gn 6 sc_law.nd) (b1 (sif (PW.pt (tor (tnot (tv (xc h__law_right (hr.mono (by decide)) (ac' (xv 3) (ac' (xv 6) an')) (lc (lc ln))))) (tor (tcmp (opNe hr.units) (xc h_asks (hr.mono (by decide)) (ac' (xv 3) (ac' (xv 6) an')) (lc (lc ln))) (xc h_asks (hr.mono (by decide)) (ac' (xv 3) (ac' (xv 6) an')) (lc (lc ln)))) (tor1 (tcmp (opNe hr.units) (xct (cStrT hg (room_u hr)) T.n_str bt_str (ac (xv 3) an)) (xv 4)))))) (b1 (sret xb)) bn)))
    (bc (sif (tcmp (opNe hr.units) (xc h_asks (hr.mono (by decide)) (ac' (xv 3) (ac' (xt an) an')) (lc (lc ln))) (xix (ixD hr.units) (xv 3) xi)) (b1 (sret xb)) bn)
    (b1 (sfor (ws := [7, 8, 9]) PassesOwn.never rfl (iseq (xc h_asks (hr.mono (by decide)) (ac' (xv 3) (ac' (xt an) an')) (lc (lc ln)))) (gt rfl (gsc (gn 7 sc_law.nd) (gsc (gn 8 sc_law.nd) (gsc (gn 9 sc_law.nd) gsn)))) (bc (sset 10 sc_law.nd (pe_fz (xlc [("need", 13)] sc_law.nd (iseq (xc h_asks (hr.mono (by decide)) (ac' (xv 3) (ac' (xv 5) an')) (lc (lc ln)))) (by kernel_rfl) (fun _ _ _ _ _ => (gn 13 sc_law.nd)) (fun _ _ _ _ _ => (pts_one (tcmp (opEq hr.units) (xix (ixD hr.units) (xv 13) xi) (xv 7)))) (fun _ _ _ _ _ => (xv 13)))))
    (bc (sif (PW.pt (tor (tcmp (opNe hr.units) (xcb cLen T.n_len bt_len (ac (xv 10) an)) xi) (tor1 (tnot (tv (xc h_is_within (hr.mono (by decide)) (ac' (xix (ixD hr.units) (xix (ixD hr.units) (xv 10) xi) xi) (ac' (xv 8) an')) (lc (lc ln)))))))) (b1 (sret xb)) bn)
    (b1 (sif (tcmp (opNe hr.units) (pe_fz (xlc [("one", 14)] sc_law.nd (iseq (xv 9)) (by kernel_rfl) (fun _ _ _ _ _ => (gn 14 sc_law.nd)) (fun _ _ _ _ _ => (pts_one (tcmp (opNin hr.units) (xv 14) (xix (ixD hr.units) (xix (ixD hr.units) (xv 10) xi) xi)))) (fun _ _ _ _ _ => (xv 14)))) (pe_fz (xl an))) (b1 (sret xb)) bn)))))))))))))
    (b1 (sret xb)))
end
end G

set_option maxHeartbeats 1000000
/-! what the law itself draws as editions and ranges -/
namespace G
open PySem Dt Dm Dk Rn
open L2 (atI ixN)
open PySem.W (Datum DatumOrd Tup T3 T4)
abbrev Ed := T3 Int Int Int
theorem ed_D (a b c : Int) : Datum.toD (T3.mk a b c) = (.tuple [.int a, .int b, .int c] : D) := rfl
def at_ (p : Int) : Ed := ⟨p / 10000, p / 100 % 100, p % 100⟩
theorem sp_D (p : Pr) : Datum.toD p = (.tuple [.int p.1, .int p.2] : D) := rfl
theorem ep_D (p : Ed × Ed) : Datum.toD p = (.tuple [Datum.toD p.1, Datum.toD p.2] : D) := rfl
def rt (ps : List Pr) : Tup (Ed × Ed) := ⟨ps.map fun p => (at_ p.1, at_ p.2)⟩
def ra (ps : List Pr) : D := Datum.toD (rt ps)
theorem ra_eq (ps : List Pr) : ra ps = .tuple (ps.map fun p => .tuple [Datum.toD (at_ p.1), Datum.toD (at_ p.2)]) := by
  show PyData.tuple ((ps.map _).map _) = _
  rw [List.map_map]; rfl
theorem nil_D : Datum.toD ([] : List Pr) = (.list [] : D) := rfl
def RJ (S : D) (acc rest : List Pr) (ss : SS) : Prop := (∃ x y, ss = [.imm S, .own (.lst (acc.reverse.map Datum.toD)), x, y]) ∧ acc.length + rest.length ≤ 10000
theorem law_at_eq (p : Int) : ev1 F__law_at (.int p) = some (Datum.toD (at_ p)) := by
  unfold F__law_at
  rw [q_ev1]
  unfold B__law_at at_
  rw [ed_D]
  simp
structure Rg (n : Nat) (ps : List Pr) : Prop where
  can : Can 0 999999 ps
  len : ps.length ≤ n
theorem can_all {lo hi : Int} : ∀ {ps : List Pr}, Can lo hi ps → 0 ≤ lo → ∀ p ∈ ps, 0 ≤ p.1 ∧ p.1 ≤ p.2 ∧ p.2 ≤ hi
  | p :: r, h, h0, q, hq => by
    rcases List.mem_cons.mp hq with rfl | hq
    · exact ⟨Int.le_trans h0 h.1, h.2.1, h.2.2.1⟩
    · refine can_all h.2.2.2 ?_ q hq
      have := h.1; have := h.2.1; omega
  | [], h, _, q, hq => nomatch hq
theorem srt_first (ps : List Pr) : (srt ps).Pairwise fun a b => a.1 ≤ b.1 := (srt_pair ps).imp fun {a b} h => by
  have h : (if b.1 = a.1 then decide (b.2 < a.2) else decide (b.1 < a.1)) = false := h
  split at h
  · omega
  · have := of_decide_eq_false h; omega
theorem join_srt {n : Nat} {ps : List Pr} (hb : ∀ p ∈ ps, 0 ≤ p.1 ∧ p.1 ≤ p.2 ∧ p.2 ≤ 999999) (hn : ps.length ≤ n) : Rg n (join (srt ps)) ∧ ∀ x, Mem (join (srt ps)) x ↔ Mem ps x := by
  obtain ⟨h1, h2, h3⟩ := join_ok (lo := 0) (hi := 999999) (srt_first ps) fun p hp => hb p ((srt_perm ps).mem_iff.mp hp)
  refine ⟨⟨h1, by rw [(srt_perm ps).length_eq] at h3; omega⟩, fun x => ?_⟩
  rw [h2, mem_perm (srt_perm ps)]
theorem law_joined_eq (ps : List Pr) (hl : ps.length ≤ 10000) (hp : ∀ p ∈ ps, p.1 ≤ p.2) : ev1 F__law_joined (Datum.toD ps) = some (ra (join (srt ps))) := by
  unfold F__law_joined
  rw [q_ev1]
  unfold B__law_joined
  have hs : gSorted [Datum.toD ps] = some (.lst ((srt ps).map Datum.toD)) := srt_dat ps (pair_kind ps)
  have hq : (srt ps).length = ps.length := (srt_perm ps).length_eq
  obtain ⟨s2, h1, ⟨⟨x, y, rfl⟩, h2⟩, _⟩ := loop_rest (g := gTup 2 (gCons (gN 2) (gCons (gN 3) gNil)))
    (b := sIf (bAnd (bOf (ePkL dNe 1 (eFz (nLst lNil)))) (bOf (eOp dLe (eV 2) (eOp dAdd (eOp dIx (eOix 1 (eUn dNeg (eC (.int 1)))) (eC (.int 1))) (eC (.int 1)))))) (sSetL 1 (eUn dNeg (eC (.int 1))) (eTup (lCons (eOp dIx (eOix 1 (eUn dNeg (eC (.int 1)))) (eC (.int 0))) (lCons (eCB gMax (lCons (eV 3) (lCons (eOp dIx (eOix 1 (eUn dNeg (eC (.int 1)))) (eC (.int 1))) lNil))) lNil)))) (sApp 1 (eTup (lCons (eV 2) (lCons (eV 3) lNil)))))
    (fun p : Pr => (Datum.toD p : D)) jstep (fun acc rest ss => RJ (Datum.toD ps) acc rest ss ∧ ∀ p ∈ rest, p.1 ≤ p.2) (fun acc p r ss hR => by
      obtain ⟨⟨⟨x, y, rfl⟩, hb⟩, hpp⟩ := hR
      have hp := hpp p List.mem_cons_self
      rw [List.length_cons] at hb
      refine ⟨[.imm (Datum.toD ps), .own (.lst (acc.reverse.map Datum.toD)), .imm (.int p.1), .imm (.int p.2)], ?_⟩
      cases acc with
      | nil =>
        have hn : dNe (.list []) (.list []) = some (.bool false) := ne_dat ([] : List Pr) []
        refine ⟨_, by simp [sp_D], ?_, ⟨⟨.imm (.int p.1), .imm (.int p.2), rfl⟩, ?_⟩, fun q hq => hpp q (List.mem_cons_of_mem _ hq)⟩
        · simp [hn, hp, jstep, sp_D]
        · simp [jstep, hp]
          simp at hb
          omega
      | cons q t =>
        have hn : dNe (.list ((t.reverse ++ [q]).map Datum.toD)) (.list []) = some (.bool true) := (ne_dat (t.reverse ++ [q]) []).trans (by simp)
        rw [List.length_cons] at hb
        have hix : ixN (t.length + 1) (-1) = some t.length := by
          have := q_ixL q t.reverse
          simpa using this
        by_cases hj : p.1 ≤ q.2 + 1
        · refine ⟨_, by simp [sp_D], ?_, ⟨⟨.imm (.int p.1), .imm (.int p.2), rfl⟩, ?_⟩, fun q hq => hpp q (List.mem_cons_of_mem _ hq)⟩
          · simp [sp_D] at hn
            have hm : (if p.2 < q.2 then q.2 else p.2) = if q.2 < p.2 then p.2 else q.2 := by
              repeat' split
              all_goals omega
            simp [hn, hj, jstep, sp_D, hix, hm]
          · simp [jstep, hj]
            omega
        · refine ⟨_, by simp [sp_D], ?_, ⟨⟨.imm (.int p.1), .imm (.int p.2), rfl⟩, ?_⟩, fun q hq => hpp q (List.mem_cons_of_mem _ hq)⟩
          · simp [sp_D] at hn
            simp [hn, hj, hp, jstep, sp_D]
            omega
          · simp [jstep, hj, hp]
            omega) (srt ps) [] [.imm (Datum.toD ps), .own (.lst []), .un, .un] ⟨⟨⟨.un, .un, rfl⟩, by simp [hq]; exact hl⟩, fun p h => hp p ((srt_perm ps).mem_iff.mp h)⟩
  have hc := comp_map (vs := [2, 3]) (g := gTup 2 (gCons (gN 2) (gCons (gN 3) gNil))) (t := bYes) (e := eTup (lCons (eCall F__law_at (aCons (eV 2) aNil)) (lCons (eCall F__law_at (aCons (eV 3) aNil)) lNil)))
    (ss := [.imm (Datum.toD ps), .imm (.list ((join (srt ps)).map Datum.toD)), .un, .un]) (fun p : Pr => (Datum.toD p : D)) (fun _ => true) (fun p => (.tuple [Datum.toD (at_ p.1), Datum.toD (at_ p.2)] : D)) (join (srt ps)) fun p hp => by
      unfold turnF
      simp [lend, lendS, unlend, unlendS, wipeS, law_at_eq, sp_D]
  have hf : (join (srt ps)).filter (fun _ => true) = join (srt ps) := List.filter_eq_self.mpr fun _ _ => rfl
  rw [hf] at hc
  have hlen : (join (srt ps)).length ≤ 10000 := by
    unfold join
    rw [List.length_reverse]
    simpa using h2
  have hj : List.map Datum.toD (List.foldl jstep [] (srt ps)).reverse = (join (srt ps)).map Datum.toD := rfl
  simp only [List.replicate] 
  simp [hs, h1, wipeS, backS, backF, keepS]
  rw [← List.map_reverse, hj, hc]
  simp
  rw [if_pos (by omega)]
  simp [backS, backF, keepS]
  rw [ra_eq]
theorem pick_is : F__law_pick = F_pick := rfl
theorem deck_is : F__law_deck = F_deck := rfl
theorem ix4 (r k : Int) (h0 : 0 ≤ r) (h1 : r < 100) (k0 : 0 ≤ k) (k1 : k < 4) : ∃ v : Int, 0 ≤ v ∧ v ≤ 99 ∧ atI [(.int 0 : D), .int 1, .int 99, .int r] k = some (.int v) := by
  have : k = 0 ∨ k = 1 ∨ k = 2 ∨ k = 3 := by omega
  rcases this with rfl | rfl | rfl | rfl
  · exact ⟨0, by decide, by decide, rfl⟩
  · exact ⟨1, by decide, by decide, rfl⟩
  · exact ⟨99, by decide, by decide, rfl⟩
  · exact ⟨r, h0, by omega, rfl⟩
theorem edition_ok {n : Nat} {o : O} (h : Deck n o) (hn : n ≤ 90000) : ∃ (x y z : Int) (u : O), rv1 F__law_edition o = some (Datum.toD (T3.mk x y z), u) ∧ (0 ≤ x ∧ x ≤ 99) ∧ (0 ≤ y ∧ y ≤ 99) ∧ (0 ≤ z ∧ z ≤ 99) ∧ Deck (n + 5) u := by
  obtain ⟨w, u1, e1, w0, w1, d1⟩ := pick_spec (m := 5) h (by omega) (by decide) (by decide)
  unfold F__law_edition
  rw [q_rv1]
  unfold B__law_edition

  by_cases hw : w < 4
  · obtain ⟨x, u2, e2, x0, x1, d2⟩ := pick_spec (m := 3) d1 (by omega) (by decide) (by decide)
    obtain ⟨y, u3, e3, y0, y1, d3⟩ := pick_spec (m := 2) d2 (by omega) (by decide) (by decide)
    refine ⟨x, y, 0, u3, ?_, by omega, by omega, by omega, d3.mono (by omega)⟩
    simp [q_r2, pick_is, e1, e2, e3, hw, ed_D]
  · obtain ⟨r, u2, e2, r0, r1, d2⟩ := pick_spec (m := 100) d1 (by omega) (by decide) (by decide)
    obtain ⟨i, u3, e3, i0, i1, d3⟩ := pick_spec (m := 4) d2 (by omega) (by decide) (by decide)
    obtain ⟨j, u4, e4, j0, j1, d4⟩ := pick_spec (m := 4) d3 (by omega) (by decide) (by decide)
    obtain ⟨k, u5, e5, k0, k1, d5⟩ := pick_spec (m := 4) d4 (by omega) (by decide) (by decide)
    obtain ⟨x, x0, x1, ex⟩ := ix4 r i r0 r1 i0 i1
    obtain ⟨y, y0, y1, ey⟩ := ix4 r j r0 r1 j0 j1
    obtain ⟨z, z0, z1, ez⟩ := ix4 r k r0 r1 k0 k1
    refine ⟨x, y, z, u5, ?_, ⟨x0, x1⟩, ⟨y0, y1⟩, ⟨z0, z1⟩, d5.mono (by omega)⟩
    simp [q_r2, pick_is, e1, e2, e3, e4, e5, hw, ed_D, ex, ey, ez]
theorem law_place_eq {x y z : Int} (hx : 0 ≤ x ∧ x ≤ 99) (hy : 0 ≤ y ∧ y ≤ 99) (hz : 0 ≤ z ∧ z ≤ 99) : ev1 F__law_place (Datum.toD (T3.mk x y z)) = some (.int (x * 10000 + y * 100 + z)) := by
  obtain ⟨a0, a1⟩ := hx
  obtain ⟨b0, b1⟩ := hy
  unfold F__law_place
  rw [q_ev1]
  unfold B__law_place
  rw [ed_D]
  have l1 : dMul (.int x) (.int 10000) = some (.int (x * 10000)) := mul_int (by omega) (by decide)
  have l2 : dMul (.int y) (.int 100) = some (.int (y * 100)) := mul_int (by omega) (by decide)
  simp [-q_mul, l1, l2]
theorem place_ok {n : Nat} {o : O} (h : Deck n o) (hn : n ≤ 90000) : ∃ (d : D) (p : Int) (u : O), rv1 F__law_edition o = some (d, u) ∧ ev1 F__law_place d = some (.int p) ∧ 0 ≤ p ∧ p ≤ 999999 ∧ Deck (n + 5) u := by
  obtain ⟨x, y, z, u, e, hx, hy, hz, d⟩ := edition_ok h hn
  exact ⟨_, _, u, e, law_place_eq hx hy hz, by omega, by omega, d⟩
theorem srt2 (p q : Int) : ∃ a b : Int, gSorted [.list [.int p, .int q]] = some (.lst [.int a, .int b]) ∧ a ≤ b ∧ (a = p ∧ b = q ∨ a = q ∧ b = p) := by
  have h := srt_dat [p, q] (int_kind _)
  have hp := srt_perm [p, q]
  have hw := srt_pair [p, q]
  have hl := hp.length_eq
  match e : srt [p, q], hl with
  | [a, b], _ =>
    rw [e] at h hp hw
    refine ⟨a, b, h, ?_, ?_⟩
    · have := (List.pairwise_cons.mp hw).1 b List.mem_cons_self
      have := of_decide_eq_false (show decide (b < a) = false from this)
      omega
    · have ha := hp.mem_iff.mp (List.mem_cons_self (a := a) (l := [b]))
      rcases List.mem_cons.mp ha with rfl | ha
      · have := hp.cons_inv
        exact .inl ⟨rfl, by simpa using this⟩
      · have ha := List.mem_singleton.mp ha
        subst ha
        have := (hp.trans (List.Perm.swap _ _ _)).cons_inv
        exact .inr ⟨rfl, by simpa using this⟩
theorem ra1 (a b : Int) : ra [(a, b)] = .tuple [.tuple [Datum.toD (at_ a), Datum.toD (at_ b)]] := rfl
theorem at0 : (Datum.toD (at_ 0) : D) = .tuple [.int 0, .int 0, .int 0] := rfl
theorem at9 : (Datum.toD (at_ 999999) : D) = .tuple [.int 99, .int 99, .int 99] := rfl
theorem rg1 {a b : Int} (h0 : 0 ≤ a) (h1 : a ≤ b) (h2 : b ≤ 999999) : Rg 3 [(a, b)] := ⟨⟨h0, h1, h2, trivial⟩, by simp⟩
theorem law_span_ok {n : Nat} {o : O} (h : Deck n o) (hn : n ≤ 80000) : ∃ (ps : List Pr) (u : O), rv1 F__law_span o = some (ra ps, u) ∧ Rg 3 ps ∧ Deck (n + 20) u := by
  obtain ⟨w, u1, e1, w0, w1, d1⟩ := pick_spec (m := 9) h (by omega) (by decide) (by decide)
  obtain ⟨p1, x, u2, e2, q2, x0, x1, d2⟩ := place_ok d1 (by omega)
  obtain ⟨p2, y, u3, e3, q3, y0, y1, d3⟩ := place_ok d2 (by omega)
  obtain ⟨a, b, es, hab, hh⟩ := srt2 x y
  have ha0 : 0 ≤ a := by omega
  have hb9 : b ≤ 999999 := by omega
  unfold F__law_span
  rw [q_rv1]
  unfold B__law_span

  by_cases h3 : w < 3
  · refine ⟨[(0, 999999)], u3, ?_, rg1 (by decide) (by decide) (by decide), d3.mono (by omega)⟩
    simp [q_r2, pick_is, e1, e2, e3, q2, q3, es, h3, ra1, at0, at9]
  by_cases h4 : w = 3
  · refine ⟨[(a, 999999)], u3, ?_, rg1 ha0 (by omega) (by decide), d3.mono (by omega)⟩
    simp [q_r2, pick_is, e1, e2, e3, q2, q3, es, h4, ra1, at0, at9, law_at_eq]
  by_cases h5 : w = 4
  · refine ⟨[(0, b)], u3, ?_, rg1 (by decide) (by omega) hb9, d3.mono (by omega)⟩
    simp [q_r2, pick_is, e1, e2, e3, q2, q3, es, h5, ra1, at0, at9, law_at_eq]
  by_cases h7 : w < 7
  · refine ⟨[(a, b)], u3, ?_, rg1 ha0 hab hb9, d3.mono (by omega)⟩
    simp [q_r2, pick_is, e1, e2, e3, q2, q3, es, h3, h4, h5, h7, ra1, law_at_eq]
  by_cases h8 : w = 7
  · obtain ⟨p3, z, u4, e4, q4, z0, z1, d4⟩ := place_ok d3 (by omega)
    obtain ⟨r, u5, e5, r0, r1, d5⟩ := pick_spec (m := 300) d4 (by omega) (by decide) (by decide)
    generalize hm : (if z + r < 999999 then z + r else 999999) = m
    have m0 : z ≤ m := by rw [← hm]; split <;> omega
    have m1 : m ≤ 999999 := by rw [← hm]; split <;> omega
    have hj := law_joined_eq [(a, a), (b, b), (z, m)] (by simp) (by simp; omega)
    have e0 : (Datum.toD [((a, a) : Pr), (b, b), (z, m)] : D) = .list [.tuple [.int a, .int a], .tuple [.int b, .int b], .tuple [.int z, .int m]] := rfl
    rw [e0] at hj
    obtain ⟨j1, _⟩ := join_srt (n := 3) (ps := [(a, a), (b, b), (z, m)]) (by simp; omega) (by simp)
    refine ⟨_, u5, ?_, j1, d5.mono (by omega)⟩
    simp [q_r2, pick_is, e1, e2, e3, q2, q3, es, h8, e4, q4, e5, hm, hj]
  · obtain ⟨r, u4, e4, r0, r1, d4⟩ := pick_spec (m := 2) d3 (by omega) (by decide) (by decide)
    have : r = 0 ∨ r = 1 := by omega
    rcases this with rfl | rfl
    · have hj := law_joined_eq [] (by decide) (fun p hp => nomatch hp)
      have e0 : (Datum.toD ([] : List Pr) : D) = .list [] := rfl
      rw [e0] at hj
      have em : dMul (.list [.tuple [.int a, .int b]]) (.int 0) = some (.list []) := rfl
      obtain ⟨j1, _⟩ := join_srt (n := 3) (ps := []) (fun p hp => nomatch hp) (by decide)
      refine ⟨_, u4, ?_, j1, d4.mono (by omega)⟩
      simp [q_r2, pick_is, e1, e2, e3, q2, q3, es, h3, h4, h5, h7, h8, e4, em, hj]
    · have hj := law_joined_eq [(a, b)] (by simp) (by simp; omega)
      have e0 : (Datum.toD [((a, b) : Pr)] : D) = .list [.tuple [.int a, .int b]] := rfl
      rw [e0] at hj
      have em : dMul (.list [.tuple [.int a, .int b]]) (.int 1) = some (.list [.tuple [.int a, .int b]]) := rfl
      obtain ⟨j1, _⟩ := join_srt (n := 3) (ps := [(a, b)]) (by simp; omega) (by simp)
      refine ⟨_, u4, ?_, j1, d4.mono (by omega)⟩
      simp [q_r2, pick_is, e1, e2, e3, q2, q3, es, h3, h4, h5, h7, h8, e4, em, hj]
theorem ne_same (c : List Pr) : dNe (ra c) (ra c) = some (.bool false) := (ne_dat (rt c) (rt c)).trans (by simp)
theorem q_par3 (i j k : Nat) (x y z : D) (f : FL) (ss s1 : SS) (h : f ss = .ok [x, y, z] s1) (hl : ([i, j, k].all fun i => decide (i < s1.length)) = true) : sPar [i, j, k] f ss = .nx (((s1.set i (.imm x)).set j (.imm y)).set k (.imm z)) := by
  unfold sPar
  rw [h]
  simp only
  rw [if_pos ⟨rfl, hl⟩]
  rfl
theorem ne_bool (a b : Bool) : dNe (.bool a) (.bool b) = some (.bool (!decide (a = b))) := ne_dat a b
theorem eq_ra (c d : List Pr) : dEq (ra c) (ra d) = some (.bool (decide (rt c = rt d))) := eq_dat (rt c) (rt d)
end G

set_option maxHeartbeats 1000000
/-! what the law itself draws as needs -/
namespace G
open PySem Dt Dm Dk Rn
open L2 (atI ixN)
open PySem.W (Datum DatumOrd Tup T3 T4)
abbrev sd (x : Str) : D := .str x
structure Need where
  name : Str
  rng : List Pr
  exs : List Str
def nd (q : Need) : D := .tuple [.str q.name, ra q.rng, .tuple (q.exs.map sd)]
def fastS : Str := Str.ofString "fast"
def slimS : Str := Str.ofString "slim"
theorem law_need_ok {n : Nat} {o : O} (h : Deck n o) (hn : n ≤ 79000) (name : Str) (es : List Str) (he : es.length ≤ 10) : ∃ (q : Need) (u : O), rv3 F__law_need o (.str name) (.list (es.map sd)) = some (nd q, u) ∧ q.name = name ∧ Rg 3 q.rng ∧ q.exs.Sublist es ∧ Deck (n + 30) u := by
  unfold F__law_need
  rw [q_rv3]
  unfold B__law_need
  obtain ⟨ws, s2, hc, hsub, u, rfl, d1⟩ := comp_keep (vs := [4]) (g := gN 4) (t := bOf (eOp dEq (eCall F__law_pick (aRef 0 (aCons (eC (.int 4)) aNil))) (eC (.int 0)))) (e := eV 4) sd sd
    (fun j ss => ∃ u, ss = [.bor u, .imm (.str name), .imm (.list (es.map sd)), .un, .un] ∧ Deck (n + j) u) es 0 [.bor o, .imm (.str name), .imm (.list (es.map sd)), .un, .un] ⟨o, rfl, h⟩ (fun x _ j ss hj hR => by
      obtain ⟨u, rfl, d⟩ := hR
      obtain ⟨r, u1, e1, _, _, d1⟩ := pick_spec (m := 4) d (by omega) (by decide) (by decide)
      refine ⟨r == 0, [.bor u1, .imm (.str name), .imm (.list (es.map sd)), .un, .un], ?_, u1, rfl, d1⟩
      cases c : (r == 0) <;> simp [q_r2, pick_is, e1, c])
  rw [Nat.zero_add] at d1
  have hl : ws.length ≤ 10 := Nat.le_trans hsub.length_le he
  have hl2 : ws.length ≤ 16777216 := by omega
  obtain ⟨rg, u2, e2, r2, d2⟩ := law_span_ok d1 (by omega)
  refine ⟨⟨name, rg, ws⟩, u2, ?_, rfl, r2, hsub, d2.mono (by omega)⟩
  have k0 : S__law_need_0 [.bor o, .imm (.str name), .imm (.list (es.map sd)), .un, .un] = .nx [.bor u, .imm (.str name), .imm (.list (es.map sd)), .imm (.list (ws.map sd)), .un] := by
    simp [hc, hl2]
  show finR 2 (sSeq S__law_need_0 S__law_need_1 [.bor o, .imm (.str name), .imm (.list (es.map sd)), .un, .un]) = _
  rw [seq_nx k0]
  simp [e2, nd]
abbrev nkv : Str → D := fun x => .str x
structure NeedOk (names : List Str) (q : Need) : Prop where
  nm : q.name ∈ names
  rg : Rg 3 q.rng
  ex : q.exs.Sublist [fastS, slimS]
structure NeedsOk (names : List Str) (qs : List Need) : Prop where
  all : ∀ q ∈ qs, NeedOk names q
  inc : (qs.map (·.name)).Pairwise fun a b => DatumOrd.lt a b = true
theorem str_tri {a b : Str} (h : DatumOrd.lt b a = false) (hn : a ≠ b) : DatumOrd.lt a b = true := by
  have e : ∀ x y : Str, DatumOrd.lt x y = decide (x.cps.toList < y.cps.toList) := fun x y => rfl
  rw [e] at h ⊢
  have h := of_decide_eq_false h
  refine decide_eq_true ?_
  by_cases c : a.cps.toList < b.cps.toList
  · exact c
  · refine absurd ?_ hn
    have := List.le_antisymm (List.not_lt.mp c) (List.not_lt.mp h)
    obtain ⟨⟨a⟩⟩ := a
    obtain ⟨⟨b⟩⟩ := b
    simp at this
    rw [this]
theorem srt_inc {xs : List Str} (h : xs.Nodup) : (srt xs).Pairwise fun a b => DatumOrd.lt a b = true := by
  have h1 := srt_pair xs
  have h2 : (srt xs).Nodup := (srt_perm xs).nodup_iff.mpr h
  have := h1.and h2
  exact this.imp fun ⟨a, b⟩ => str_tri a b
theorem law_needs_ok {n : Nat} {o : O} (h : Deck n o) (hn : n ≤ 78000) (names : List Str) (hl : names.length ≤ 20) (lim : Int) (l0 : 0 ≤ lim) (l1 : lim ≤ 6) : ∃ (qs : List Need) (u : O), rv3 F__law_needs o (.list (names.map sd)) (.int lim) = some (.tuple (qs.map nd), u) ∧ NeedsOk names qs ∧ (qs.length : Int) ≤ lim ∧ Deck (n + 1 + 40 * lim.toNat) u := by
  unfold F__law_needs
  rw [q_rv3]
  obtain ⟨r, u1, e1, r0, r1, d1⟩ := pick_spec (m := lim + 1) h (by omega) (by omega) (by omega)
  have k0 : S__law_needs_0 [.bor o, .imm (.list (names.map sd)), .imm (.int lim), .un, .un, .un] = .nx [.bor o, .imm (.list (names.map sd)), .imm (.int lim), .own (.dct []), .un, .un] := by simp
  have hi : lRng1 (lCons (eCall F__law_pick (aRef 0 (aCons (eOp dAdd (eV 2) (eC (.int 1))) aNil))) lNil) [.bor o, .imm (.list (names.map sd)), .imm (.int lim), .own (.dct []), .un, .un] = .ok (rangeD 0 r.toNat) [.bor u1, .imm (.list (names.map sd)), .imm (.int lim), .own (.dct []), .un, .un] := by
    simp [q_r2, pick_is, e1, small_ok r0 (show r < 1000000 by omega)]
  obtain ⟨ws, u2, v4, v5, hL, hw1, hw2, hw3, d2⟩ : ∃ (ws : List (Str × Need)) (u : O) (v4 v5 : Sl), S__law_needs_1 [.bor o, .imm (.list (names.map sd)), .imm (.int lim), .own (.dct []), .un, .un] = .nx [.bor u, .imm (.list (names.map sd)), .imm (.int lim), .own (.dct (ws.map (enc2 nkv nd))), v4, v5] ∧ (∀ p ∈ ws, p.2.name = p.1 ∧ NeedOk names p.2) ∧ (ws.map (·.1)).Nodup ∧ ws.length ≤ r.toNat ∧ Deck (n + 1 + 40 * r.toNat) u := by
    simp only [S__law_needs_1, q_sFor, hi]
    generalize hL : loopF _ _ _ _ = oo
    obtain ⟨s2, rfl, ws, u, v4, v5, rfl, a1, a2, a3, a4⟩ := loop_cnt hL (fun j ss => ∃ (ws : List (Str × Need)) (u : O) (v4 v5 : Sl), ss = [.bor u, .imm (.list (names.map sd)), .imm (.int lim), .own (.dct (ws.map (enc2 nkv nd))), v4, v5] ∧ (∀ p ∈ ws, p.2.name = p.1 ∧ NeedOk names p.2) ∧ (ws.map (·.1)).Nodup ∧ ws.length ≤ j ∧ Deck (n + 1 + 40 * j) u)
      ⟨[], u1, .un, .un, rfl, fun p hp => (nomatch hp), List.nodup_nil, Nat.le_refl _, d1⟩ (fun j ss hj hR => by
        obtain ⟨ws, u, v4, v5, rfl, a1, a2, a3, a4⟩ := hR
        by_cases hne : names = []
        · subst hne
          have hd : dNe (.list []) (.list []) = some (.bool false) := ne_dat ([] : List Str) []
          exact ⟨[.bor u, .imm (.list []), .imm (.int lim), .own (.dct (ws.map (enc2 nkv nd))), .imm (.int j), v5], [.bor u, .imm (.list []), .imm (.int lim), .own (.dct (ws.map (enc2 nkv nd))), .imm (.int j), v5], by simp, .inl (by simp [hd]), ws, u, .imm (.int j), v5, rfl, a1, a2, by omega, a4.mono (by omega)⟩
        · have hd : dNe (.list (names.map sd)) (.list []) = some (.bool true) := (ne_dat names []).trans (by simp [hne])
          have hlen : 0 < names.length := List.length_pos_iff.mpr hne
          obtain ⟨i, u2, e2, i0, i1, d2⟩ := pick_spec (m := (names.length : Int)) a4 (by omega) (by omega) (by omega)
          obtain ⟨nm, hnm, hat⟩ := at_mem (xs := names) i0 i1
          have hat2 : atI (names.map sd) i = some (.str nm) := by
            obtain ⟨m, rfl⟩ := Int.eq_ofNat_of_zero_le i0
            have hm : m < names.length := by omega
            rw [at_get (List.getElem?_eq_getElem hm)] at hat
            rw [at_get (x := .str nm)]
            rw [List.getElem?_map, List.getElem?_eq_getElem hm]
            cases hat
            rfl
          obtain ⟨q, u3, e3, q1, q2, q3, d3⟩ := law_need_ok d2 (by omega) nm [fastS, slimS] (by decide)
          have e3' : rv3 F__law_need u2 (.str nm) (.list [.str (Str.ofString "fast"), .str (Str.ofString "slim")]) = some (nd q, u3) := e3
          have hput := dput_enc (vd := nd) kenc_str ws nm q
          refine ⟨[.bor u, .imm (.list (names.map sd)), .imm (.int lim), .own (.dct (ws.map (enc2 nkv nd))), .imm (.int j), v5], [.bor u3, .imm (.list (names.map sd)), .imm (.int lim), .own (.dct ((tput ws nm q).map (enc2 nkv nd))), .imm (.int j), .imm (.str nm)], by simp, .inl ?_, tput ws nm q, u3, .imm (.int j), .imm (.str nm), rfl, ?_, tput_nodup a2 _ _, ?_, d3.mono (by omega)⟩
          · have hsz : ws.length < 16777216 := by omega
            have c0 : S__law_needs_1_0_a0 [.bor u, .imm (.list (names.map sd)), .imm (.int lim), .own (.dct (ws.map (enc2 nkv nd))), .imm (.int j), v5] = .nx [.bor u2, .imm (.list (names.map sd)), .imm (.int lim), .own (.dct (ws.map (enc2 nkv nd))), .imm (.int j), .imm (.str nm)] := by
              simp [q_r2, pick_is, e2, hat2]
            have c1 : S__law_needs_1_0_a1 [.bor u2, .imm (.list (names.map sd)), .imm (.int lim), .own (.dct (ws.map (enc2 nkv nd))), .imm (.int j), .imm (.str nm)] = .nx [.bor u3, .imm (.list (names.map sd)), .imm (.int lim), .own (.dct ((tput ws nm q).map (enc2 nkv nd))), .imm (.int j), .imm (.str nm)] := by
              simp [q_r3, e3', hput, hsz]
            show sIf _ (sSeq S__law_needs_1_0_a0 S__law_needs_1_0_a1) sNil _ = _
            simp [-q_sSeq, hd]
            rw [seq_nx c0, c1]
          · intro p hp
            rcases mem_tput hp with rfl | hp
            · exact ⟨q1, ⟨by rw [q1]; exact hnm, q2, q3⟩⟩
            · exact a1 p hp
          · have := tput_len ws nm q
            omega)
    exact ⟨ws, u, v4, v5, rfl, a1, a2, a3, a4⟩
  have hnd : ∀ k ∈ srt (ws.map (·.1)), ∃ q, tget ws k = some q ∧ q.name = k ∧ NeedOk names q := fun k hk => by
    obtain ⟨q, h1, h2⟩ := tget_some ((srt_perm _).mem_iff.mp hk)
    exact ⟨q, h1, (hw1 _ h2).1, (hw1 _ h2).2⟩
  have hlen : (srt (ws.map (·.1))).length = ws.length := by rw [(srt_perm _).length_eq, List.length_map]
  have hk2 : ∃ s3, S__law_needs_2 [.bor u2, .imm (.list (names.map sd)), .imm (.int lim), .own (.dct (ws.map (enc2 nkv nd))), v4, v5] = .rt (.imm (.tuple ((srt (ws.map (·.1))).map fun k => nd ((tget ws k).getD ⟨k, [], []⟩)))) (.bor u2 :: s3) ∧ 2 ≤ s3.length := by
    have hs := sorted_str nd ws
    simp [-q_nLc]
    rw [nLc_all (ss1 := [.bor u2, .imm (.list (names.map sd)), .imm (.int lim), .imm (.dict (ws.map (enc2 nkv nd))), v4, v5]) nkv (fun k => nd ((tget ws k).getD ⟨k, [], []⟩)) (srt (ws.map (·.1))) ?hs ?h ?hl]
    case hs => simp [hs]
    case h =>
      intro k hk
      obtain ⟨q, g1, g2, g3⟩ := hnd k hk
      have := dix_str nd ws k
      rw [g1] at this
      cases v4 <;> simp [this, g1]
    case hl => rw [hlen, q_size]; omega
    simp
  obtain ⟨s3, k2, hs3⟩ := hk2
  refine ⟨(srt (ws.map (·.1))).map fun k => (tget ws k).getD ⟨k, [], []⟩, u2, ?_, ⟨?_, ?_⟩, ?_, d2.mono (by omega)⟩
  · show finR 2 (sSeq S__law_needs_0 (sSeq S__law_needs_1 S__law_needs_2) [.bor o, .imm (.list (names.map sd)), .imm (.int lim), .un, .un, .un]) = _
    rw [seq_nx k0, seq_nx hL, k2, q_finR_rt, if_pos hs3, List.map_map]
    rfl
  · intro q hq
    obtain ⟨k, hk, rfl⟩ := List.mem_map.mp hq
    obtain ⟨q, g1, g2, g3⟩ := hnd k hk
    rw [g1]
    exact g3
  · have : ((srt (ws.map (·.1))).map fun k => (tget ws k).getD ⟨k, [], []⟩).map (·.name) = srt (ws.map (·.1)) := by
      rw [List.map_map]
      refine Eq.trans (List.map_congr_left fun k hk => ?_) (List.map_id _)
      obtain ⟨q, g1, g2, g3⟩ := hnd k hk
      show ((tget ws k).getD ⟨k, [], []⟩).name = k
      rw [g1]
      exact g2
    rw [this]
    exact srt_inc hw2
  · rw [List.length_map, hlen]
    omega
end G

set_option maxHeartbeats 1000000
/-! what the law itself draws as wares -/
namespace G
open PySem Dt Dm Dk Rn
open L2 (atI ixN)
open PySem.W (Datum DatumOrd Tup T3 T4)
inductive Step where
  | put (p t : Str)
  | join (p : Str) (ps : List Str)
  | drop (p : Str)
def stp : Step → D
  | .put p t => .tuple [.str (Str.ofString "put"), .str p, .str t]
  | .join p ps => .tuple [.str (Str.ofString "join"), .str p, .tuple (ps.map sd)]
  | .drop p => .tuple [.str (Str.ofString "drop"), .str p]
structure Ware where
  name : Str
  ed : Ed
  needs : List Need
  extras : List (Str × List Need)
  files : List (Str × Str)
  steps : List Step
def exd (p : Str × List Need) : D := .tuple [.str p.1, .tuple (p.2.map nd)]
def fid (p : Str × Str) : D := .tuple [.str p.1, .str p.2]
def wd (w : Ware) : D := .tuple [.str w.name, Datum.toD w.ed, .tuple (w.needs.map nd), .tuple (w.extras.map exd), .tuple (w.files.map fid), .tuple (w.steps.map stp)]
def EdOk (e : Ed) : Prop := (0 ≤ e.a ∧ e.a ≤ 99) ∧ (0 ≤ e.b ∧ e.b ≤ 99) ∧ (0 ≤ e.c ∧ e.c ≤ 99)
structure ExOk (names : List Str) (xs : List (Str × List Need)) : Prop where
  sub : (xs.map (·.1)).Sublist [fastS, slimS]
  all : ∀ p ∈ xs, NeedsOk names p.2 ∧ p.2.length ≤ 1
def pa (name : Str) : Str := name ++ Str.ofString "/a"
def pb (name : Str) : Str := name ++ Str.ofString "/b"
def pc (name : Str) : Str := name ++ Str.ofString "/c"
def pd (name : Str) : Str := name ++ Str.ofString "/d"
def Sm (x : Str) : Prop := ∀ c ∈ x.cps.toList, c < 1000
theorem sm_app {x y : Str} (hx : Sm x) (hy : Sm y) : Sm (x ++ y) := fun c hc => by
  have e : (x ++ y).cps.toList = x.cps.toList ++ y.cps.toList := TL.tl_append x y
  rw [e] at hc
  exact (List.mem_append.mp hc).elim (hx c) (hy c)
theorem sm_sn {a : Int} (h0 : 0 ≤ a) : Sm (sn a) := fun c hc => by
  have e := TL.tl_num a.toNat
  rw [Int.toNat_of_nonneg h0] at e
  have e : (sn a).cps.toList = TL.numL a.toNat := e
  rw [e] at hc
  have := TL.numL_digits a.toNat c hc
  omega
structure WareOk (name : Str) (ed : Ed) (names : List Str) (w : Ware) : Prop where
  nm : w.name = name
  ed : w.ed = ed
  needs : NeedsOk (names.filter fun x => !decide (x = name)) w.needs
  few : w.needs.length ≤ 3
  ex : ExOk (names.filter fun x => !decide (x = name)) w.extras
  tx : Sm name → ∀ p ∈ w.files, Sm p.2
  fs : ∃ (t t2 : Str) (k : Nat), t.length ≤ name.length + 10 ∧ t2.length ≤ 1 ∧ w.files = [(pa name, t), (pb name, t2)] ∧ w.steps = [Step.put (pc name) (revS t), Step.join (pd name) [pa name, pb name], Step.drop (pb name)].take k
theorem ix4s (k : Int) (k0 : 0 ≤ k) (k1 : k < 4) : ∃ v : Str, v.length ≤ 2 ∧ Sm v ∧ atI [(.str (Str.ofString "") : D), .str (Str.ofString "~"), .str (Str.ofString "\n"), .str (Str.ofString " x")] k = some (.str v) := by
  have : k = 0 ∨ k = 1 ∨ k = 2 ∨ k = 3 := by omega
  rcases this with rfl | rfl | rfl | rfl
  · exact ⟨_, by decide, by unfold Sm; decide +kernel, rfl⟩
  · exact ⟨_, by decide, by unfold Sm; decide +kernel, rfl⟩
  · exact ⟨_, by decide, by unfold Sm; decide +kernel, rfl⟩
  · exact ⟨_, by decide, by unfold Sm; decide +kernel, rfl⟩
theorem ix2s (k : Int) (k0 : 0 ≤ k) (k1 : k < 2) : ∃ v : Str, v.length ≤ 1 ∧ Sm v ∧ atI [(.str (Str.ofString "") : D), .str (Str.ofString "b")] k = some (.str v) := by
  have : k = 0 ∨ k = 1 := by omega
  rcases this with rfl | rfl
  · exact ⟨_, by decide, by unfold Sm; decide +kernel, rfl⟩
  · exact ⟨_, by decide, by unfold Sm; decide +kernel, rfl⟩
theorem law_ware_ok {n : Nat} {o : O} (h : Deck n o) (hn : n ≤ 70000) (name : Str) (hnm : name.length ≤ 1000) (ed : Ed) (he : EdOk ed) (names : List Str) (hl : names.length ≤ 20) :
    ∃ (w : Ware) (u : O), rv4 F__law_ware o (.str name) (Datum.toD ed) (.list (names.map sd)) = some (wd w, u) ∧ WareOk name ed names w ∧ Deck (n + 250) u := by
  unfold F__law_ware
  rw [q_rv4]
  obtain ⟨x, y, z⟩ := ed
  obtain ⟨hx, hy, hz⟩ := he
  simp only at hx hy hz
  rw [ed_D]
  generalize hE : (.tuple [.int x, .int y, .int z] : D) = E
  generalize hO : (names.filter fun x => !decide (x = name)) = others
  have hol : others.length ≤ 20 := by rw [← hO]; exact Nat.le_trans (List.length_filter_le _ _) hl
  have k0 : S__law_ware_0 [.bor o, .imm (.str name), .imm E, .imm (.list (names.map sd)), .un, .un, .un, .un, .un, .un, .un] = .nx [.bor o, .imm (.str name), .imm E, .imm (.list (names.map sd)), .imm (.list (others.map sd)), .un, .un, .un, .un, .un, .un] := by
    simp [-q_nLc]
    rw [nLc_filt sd (fun x => !decide (x = name)) sd names ?hs ?h ?hl]
    case hs => simp
    case h =>
      intro x hx
      by_cases c : x = name <;> simp [c, -q_nes, ne_str]
    case hl => rw [q_size]; omega
    rw [hO]
    simp
  have k1 : S__law_ware_1 [.bor o, .imm (.str name), .imm E, .imm (.list (names.map sd)), .imm (.list (others.map sd)), .un, .un, .un, .un, .un, .un] = .nx [.bor o, .imm (.str name), .imm E, .imm (.list (names.map sd)), .imm (.list (others.map sd)), .own (.lst []), .un, .un, .un, .un, .un] := by simp
  obtain ⟨xs, u1, v6, k2, hx1, d1⟩ : ∃ (xs : List (Str × List Need)) (u : O) (v6 : Sl), S__law_ware_2 [.bor o, .imm (.str name), .imm E, .imm (.list (names.map sd)), .imm (.list (others.map sd)), .own (.lst []), .un, .un, .un, .un, .un] = .nx [.bor u, .imm (.str name), .imm E, .imm (.list (names.map sd)), .imm (.list (others.map sd)), .own (.lst (xs.map exd)), v6, .un, .un, .un, .un] ∧ ExOk others xs ∧ Deck (n + 45 * 2) u := by
    have hi : lSeq (eFz (nLst (lCons (eC (.str (Str.ofString "fast"))) (lCons (eC (.str (Str.ofString "slim"))) lNil)))) [.bor o, .imm (.str name), .imm E, .imm (.list (names.map sd)), .imm (.list (others.map sd)), .own (.lst []), .un, .un, .un, .un, .un] = .ok ([fastS, slimS].map sd) [.bor o, .imm (.str name), .imm E, .imm (.list (names.map sd)), .imm (.list (others.map sd)), .own (.lst []), .un, .un, .un, .un, .un] := by
      simp [sd, fastS, slimS]
    simp only [S__law_ware_2, q_sFor, hi]
    generalize hL : loopF _ _ _ _ = oo
    obtain ⟨s2, rfl, xs, u, v6, rfl, a1, a2, a3⟩ := loop_invE hL (fun rest ss => ∃ (xs : List (Str × List Need)) (u : O) (v6 : Sl), ss = [.bor u, .imm (.str name), .imm E, .imm (.list (names.map sd)), .imm (.list (others.map sd)), .own (.lst (xs.map exd)), v6, .un, .un, .un, .un] ∧ (xs.map (·.1) ++ rest).Sublist [fastS, slimS] ∧ (∀ p ∈ xs, NeedsOk others p.2 ∧ p.2.length ≤ 1) ∧ rest.length ≤ 2 ∧ Deck (n + 45 * (2 - rest.length)) u)
      ⟨[], o, .un, rfl, List.Sublist.refl _, fun p hp => (nomatch hp), by decide, h⟩ (fun x rest ss hR => by
        obtain ⟨xs, u, v6, rfl, a1, a2, a3, a4⟩ := hR
        rw [List.length_cons] at a3 a4
        obtain ⟨r, u1, e1, r0, r1, d1⟩ := pick_spec (m := 2) a4 (by omega) (by decide) (by decide)
        have hsz : xs.length < 16777216 := by
          have := a1.length_le
          rw [List.length_append, List.length_map] at this
          simp at this
          omega
        by_cases c : r = 0
        · obtain ⟨qs, u2, e2, q1, q2, d2⟩ := law_needs_ok d1 (by omega) others hol 1 (by decide) (by decide)
          refine ⟨[.bor u, .imm (.str name), .imm E, .imm (.list (names.map sd)), .imm (.list (others.map sd)), .own (.lst (xs.map exd)), .imm (.str x), .un, .un, .un, .un], [.bor u2, .imm (.str name), .imm E, .imm (.list (names.map sd)), .imm (.list (others.map sd)), .own (.lst ((xs ++ [(x, qs)]).map exd)), .imm (.str x), .un, .un, .un, .un], by simp, .inl ?_, xs ++ [(x, qs)], u2, _, rfl, ?_, ?_, by omega, d2.mono (by omega)⟩
          · simp [q_r2, q_r3, pick_is, e1, e2, c, hsz, exd]
          · simpa using a1
          · intro p hp
            rcases List.mem_append.mp hp with hp | hp
            · exact a2 p hp
            · rw [List.mem_singleton.mp hp]
              exact ⟨q1, by show qs.length ≤ 1; omega⟩
        · refine ⟨[.bor u, .imm (.str name), .imm E, .imm (.list (names.map sd)), .imm (.list (others.map sd)), .own (.lst (xs.map exd)), .imm (.str x), .un, .un, .un, .un], [.bor u1, .imm (.str name), .imm E, .imm (.list (names.map sd)), .imm (.list (others.map sd)), .own (.lst (xs.map exd)), .imm (.str x), .un, .un, .un, .un], by simp, .inl ?_, xs, u1, _, rfl, ?_, a2, by omega, d1.mono (by omega)⟩
          · simp [q_r2, q_r3, pick_is, e1, c]
          · exact (List.Sublist.append_left (List.sublist_cons_self x rest) _).trans a1)
    exact ⟨xs, u, v6, rfl, ⟨by simpa using a1, a2⟩, a3.2.mono (by omega)⟩
  have ls := hx1.sub.length_le
  rw [List.length_map] at ls
  have ls : xs.length ≤ 2 := ls
  obtain ⟨r, u2, e2, r0, r1, d2⟩ := pick_spec (m := 4) d1 (by omega) (by decide) (by decide)
  obtain ⟨v, hv, hvs, ev⟩ := ix4s r r0 r1
  have lx := sn_len hx.1 hx.2
  have ly := sn_len hy.1 hy.2
  have gx : gStr [.int x] = some (.str (sn x)) := gstr (by omega)
  have gy : gStr [.int y] = some (.str (sn y)) := gstr (by omega)
  have t1 : dAdd (.str name) (.str (sn x)) = some (.str (name ++ sn x)) := adds_ok (by omega)
  have t2 : dAdd (.str (name ++ sn x)) (.str (sn y)) = some (.str (name ++ sn x ++ sn y)) := adds_ok (by rw [len_app]; omega)
  have t3 : dAdd (.str (name ++ sn x ++ sn y)) (.str v) = some (.str (name ++ sn x ++ sn y ++ v)) := adds_ok (by rw [len_app, len_app]; omega)
  have ht : (name ++ sn x ++ sn y ++ v).length ≤ name.length + 10 := by rw [len_app, len_app, len_app]; omega
  have hts : Sm name → Sm (name ++ sn x ++ sn y ++ v) := fun h => sm_app (sm_app (sm_app h (sm_sn hx.1)) (sm_sn hy.1)) hvs
  generalize name ++ sn x ++ sn y ++ v = t at t3 ht hts
  have k3 : S__law_ware_3 [.bor u1, .imm (.str name), .imm E, .imm (.list (names.map sd)), .imm (.list (others.map sd)), .own (.lst (xs.map exd)), v6, .un, .un, .un, .un] = .nx [.bor u2, .imm (.str name), .imm E, .imm (.list (names.map sd)), .imm (.list (others.map sd)), .own (.lst (xs.map exd)), v6, .imm (.str t), .un, .un, .un] := by
    rw [← hE]
    simp [-q_adds, q_r2, pick_is, e2, ev, gx, gy, t1, t2, t3]
  obtain ⟨r', u3, e3, r0', r1', d3⟩ := pick_spec (m := 2) d2 (by omega) (by decide) (by decide)
  obtain ⟨w2, hw2, hws, ew2⟩ := ix2s r' r0' r1'
  have fa : dAdd (.str name) (.str (Str.ofString "/a")) = some (.str (pa name)) := adds_ok (by rw [show (Str.ofString "/a").length = 2 from rfl]; omega)
  have fb : dAdd (.str name) (.str (Str.ofString "/b")) = some (.str (pb name)) := adds_ok (by rw [show (Str.ofString "/b").length = 2 from rfl]; omega)
  have fc : dAdd (.str name) (.str (Str.ofString "/c")) = some (.str (pc name)) := adds_ok (by rw [show (Str.ofString "/c").length = 2 from rfl]; omega)
  have fd : dAdd (.str name) (.str (Str.ofString "/d")) = some (.str (pd name)) := adds_ok (by rw [show (Str.ofString "/d").length = 2 from rfl]; omega)
  have k4 : S__law_ware_4 [.bor u2, .imm (.str name), .imm E, .imm (.list (names.map sd)), .imm (.list (others.map sd)), .own (.lst (xs.map exd)), v6, .imm (.str t), .un, .un, .un] = .nx [.bor u3, .imm (.str name), .imm E, .imm (.list (names.map sd)), .imm (.list (others.map sd)), .own (.lst (xs.map exd)), v6, .imm (.str t), .imm (.tuple ([(pa name, t), (pb name, w2)].map fid)), .un, .un] := by
    simp [-q_adds, q_r2, pick_is, e3, ew2, fa, fb, fid]
  have htl : t.length ≤ 16777216 := by omega
  have k5 : S__law_ware_5 [.bor u3, .imm (.str name), .imm E, .imm (.list (names.map sd)), .imm (.list (others.map sd)), .own (.lst (xs.map exd)), v6, .imm (.str t), .imm (.tuple ([(pa name, t), (pb name, w2)].map fid)), .un, .un] = .nx [.bor u3, .imm (.str name), .imm E, .imm (.list (names.map sd)), .imm (.list (others.map sd)), .own (.lst (xs.map exd)), v6, .imm (.str t), .imm (.tuple ([(pa name, t), (pb name, w2)].map fid)), .imm (.list ([Step.put (pc name) (revS t), Step.join (pd name) [pa name, pb name], Step.drop (pb name)].map stp)), .un] := by
    simp [-q_adds, fa, fb, fc, fd, htl, stp]
  obtain ⟨qs, u4, e4, n4, l4, d4⟩ := law_needs_ok d3 (by omega) others hol 3 (by decide) (by decide)
  obtain ⟨r5, u5, e5, r50, r51, d5⟩ := pick_spec (m := 4) d4 (by omega) (by decide) (by decide)
  obtain ⟨m, rfl⟩ := Int.eq_ofNat_of_zero_le r50
  refine ⟨⟨name, ⟨x, y, z⟩, qs, xs, [(pa name, t), (pb name, w2)], [Step.put (pc name) (revS t), Step.join (pd name) [pa name, pb name], Step.drop (pb name)].take m⟩, u5, ?_, ⟨rfl, rfl, by rw [hO]; exact n4, by show qs.length ≤ 3; omega, by rw [hO]; exact hx1, (fun h p hp => by
    rcases List.mem_cons.mp hp with rfl | hp
    · exact hts h
    · rw [List.mem_singleton.mp hp]; exact hws), t, w2, m, ht, hw2, rfl, rfl⟩, d5.mono (by omega)⟩
  show finR 3 (sSeq S__law_ware_0 (sSeq S__law_ware_1 (sSeq S__law_ware_2 (sSeq S__law_ware_3 (sSeq S__law_ware_4 (sSeq S__law_ware_5 S__law_ware_6))))) [.bor o, .imm (.str name), .imm E, .imm (.list (names.map sd)), .un, .un, .un, .un, .un, .un, .un]) = _
  rw [seq_nx k0, seq_nx k1, seq_nx k2, seq_nx k3, seq_nx k4, seq_nx k5]
  have hc : cutD ([Step.put (pc name) (revS t), Step.join (pd name) [pa name, pb name], Step.drop (pb name)].map stp) none (some (m : Int)) = ([Step.put (pc name) (revS t), Step.join (pd name) [pa name, pb name], Step.drop (pb name)].take m).map stp := by
    rw [cut_to, List.map_take]
  generalize [Step.put (pc name) (revS t), Step.join (pd name) [pa name, pb name], Step.drop (pb name)] = S3 at hc ⊢
  simp [q_r2, q_r3, pick_is, e4, e5, hc, wd, ← hE, ed_D]
end G

set_option maxHeartbeats 1000000
namespace G
open PySem Dt Dm Dk Rn
open L2 (atI ixN)
open PySem.W (Datum DatumOrd Tup T3 T4)
theorem at_inj {p q : Int} (h : at_ p = at_ q) : p = q := by
  have h1 := congrArg T3.a h
  have h2 := congrArg T3.b h
  have h3 := congrArg T3.c h
  simp only [at_] at h1 h2 h3
  omega
theorem rt_inj {ps qs : List Pr} (h : rt ps = rt qs) : ps = qs := by
  have := congrArg Tup.items h
  exact (List.map_inj_right (f := fun p : Pr => (at_ p.1, at_ p.2)) fun a b e => Prod.ext (at_inj (congrArg Prod.fst e)) (at_inj (congrArg Prod.snd e))).mp this
theorem place_of_at (p : Int) (h1 : -1000000000 ≤ p) (h2 : p ≤ 1000000000) : ev1 F_place_of (Datum.toD (at_ p)) = some (.int p) := by
  unfold F_place_of
  rw [q_ev1]
  unfold B_place_of at_
  rw [ed_D]
  have a1 : (p / 10000).natAbs < 18446744073709551616 := by omega
  have a2 : (p / 100 % 100).natAbs < 18446744073709551616 := by omega
  have l1 : dMul (.int (p / 10000)) (.int 10000) = some (.int (p / 10000 * 10000)) := mul_int a1 (by decide)
  have l2 : dMul (.int (p / 100 % 100)) (.int 100) = some (.int (p / 100 % 100 * 100)) := mul_int a2 (by decide)
  simp [-q_mul, l1, l2]
  omega
theorem edition_at_eq (p : Int) : ev1 F_edition_at (.int p) = some (Datum.toD (at_ p)) := by
  unfold F_edition_at
  rw [q_ev1]
  unfold B_edition_at at_
  rw [ed_D]
  simp
def PBd (ps : List Pr) : Prop := ∀ p ∈ ps, -1000000000 ≤ p.1 ∧ p.1 ≤ 1000000000 ∧ -1000000000 ≤ p.2 ∧ p.2 ≤ 1000000000
theorem spans_of_ra (ps : List Pr) (hb : PBd ps) (hl : ps.length ≤ 10000) : ev1 F_spans_of (ra ps) = some (Datum.toD ps) := by
  unfold F_spans_of
  rw [q_ev1, ra_eq]
  unfold B_spans_of
  have hc := comp_map (vs := [1, 2]) (g := gTup 2 (Dt.gCons (Dt.gN 1) (Dt.gCons (Dt.gN 2) Dt.gNil))) (t := bYes) (e := eTup (lCons (eCall F_place_of (aCons (eV 1) aNil)) (lCons (eCall F_place_of (aCons (eV 2) aNil)) lNil)))
    (ss := [.imm (.tuple (ps.map fun p => .tuple [Datum.toD (at_ p.1), Datum.toD (at_ p.2)])), .un, .un]) (fun p : Pr => (.tuple [Datum.toD (at_ p.1), Datum.toD (at_ p.2)] : D)) (fun _ => true) (fun p => Datum.toD p) ps fun p hp => by
      obtain ⟨b1, b2, b3, b4⟩ := hb p hp
      unfold turnF
      simp [lend, lendS, unlend, unlendS, wipeS, place_of_at _ b1 b2, place_of_at _ b3 b4, sp_D]
  have hf : ps.filter (fun _ => true) = ps := List.filter_eq_self.mpr fun _ _ => rfl
  rw [hf] at hc
  simp [wipeS, hc, backS, backF, keepS]
  rw [if_pos (by omega)]
  simp
  rfl
theorem Rg.bd {n : Nat} {ps : List Pr} (h : Rg n ps) : PBd ps := fun p hp => by
  have := can_all h.can (Int.le_refl _) p hp
  omega
theorem joined_eq (ps : List Pr) (hl : ps.length ≤ 10000) : ev1 F_joined (Datum.toD ps) = some (ra (join (srt ps))) := by
  unfold F_joined
  rw [q_ev1]
  unfold B_joined
  have hs : gSorted [Datum.toD ps] = some (.lst ((srt ps).map Datum.toD)) := srt_dat ps (pair_kind ps)
  have hq : (srt ps).length = ps.length := (srt_perm ps).length_eq
  obtain ⟨s2, h1, ⟨x, y, rfl⟩, h2⟩ := loop_rest (g := gTup 2 (gCons (gN 2) (gCons (gN 3) gNil)))
    (b := sIf (bAnd (bOf (ePkL dNe 1 (eFz (nLst lNil)))) (bOf (eOp dLe (eV 2) (eOp dAdd (eOp dIx (eOix 1 (eUn dNeg (eC (.int 1)))) (eC (.int 1))) (eC (.int 1)))))) (sSetL 1 (eUn dNeg (eC (.int 1))) (eTup (lCons (eOp dIx (eOix 1 (eUn dNeg (eC (.int 1)))) (eC (.int 0))) (lCons (eCB gMax (lCons (eOp dIx (eOix 1 (eUn dNeg (eC (.int 1)))) (eC (.int 1))) (lCons (eV 3) lNil))) lNil)))) (sIf (bOf (eOp dLe (eV 2) (eV 3))) (sApp 1 (eTup (lCons (eV 2) (lCons (eV 3) lNil)))) sNil))
    (fun p : Pr => (Datum.toD p : D)) jstep (RJ (Datum.toD ps)) (fun acc p r ss hR => by
      obtain ⟨⟨x, y, rfl⟩, hb⟩ := hR
      rw [List.length_cons] at hb
      refine ⟨[.imm (Datum.toD ps), .own (.lst (acc.reverse.map Datum.toD)), .imm (.int p.1), .imm (.int p.2)], ?_⟩
      cases acc with
      | nil =>
        have hn : dNe (.list []) (.list []) = some (.bool false) := ne_dat ([] : List Pr) []
        by_cases hp : p.1 ≤ p.2
        · refine ⟨_, by simp [sp_D], ?_, ⟨⟨.imm (.int p.1), .imm (.int p.2), rfl⟩, ?_⟩⟩
          · simp [hn, hp, jstep, sp_D]
          · simp [jstep, hp]
            simp at hb
            omega
        · refine ⟨_, by simp [sp_D], ?_, ⟨⟨.imm (.int p.1), .imm (.int p.2), rfl⟩, ?_⟩⟩
          · simp [hn, hp, jstep, sp_D]
          · simp [jstep, hp]
            simp at hb
            omega
      | cons q t =>
        have hn : dNe (.list ((t.reverse ++ [q]).map Datum.toD)) (.list []) = some (.bool true) := (ne_dat (t.reverse ++ [q]) []).trans (by simp)
        rw [List.length_cons] at hb
        have hix : ixN (t.length + 1) (-1) = some t.length := by
          have := q_ixL q t.reverse
          simpa using this
        by_cases hj : p.1 ≤ q.2 + 1
        · refine ⟨_, by simp [sp_D], ?_, ⟨⟨.imm (.int p.1), .imm (.int p.2), rfl⟩, ?_⟩⟩
          · simp [sp_D] at hn
            simp [hn, hj, jstep, sp_D, hix]
          · simp [jstep, hj]
            omega
        · by_cases hp : p.1 ≤ p.2
          · refine ⟨_, by simp [sp_D], ?_, ⟨⟨.imm (.int p.1), .imm (.int p.2), rfl⟩, ?_⟩⟩
            · simp [sp_D] at hn
              simp [hn, hj, hp, jstep, sp_D]
              omega
            · simp [jstep, hj, hp]
              omega
          · refine ⟨_, by simp [sp_D], ?_, ⟨⟨.imm (.int p.1), .imm (.int p.2), rfl⟩, ?_⟩⟩
            · simp [sp_D] at hn
              simp [hn, hj, hp, jstep, sp_D]
            · simp [jstep, hj, hp]
              omega) (srt ps) [] [.imm (Datum.toD ps), .own (.lst []), .un, .un] ⟨⟨.un, .un, rfl⟩, by simp [hq]; exact hl⟩
  have hc := comp_map (vs := [2, 3]) (g := gTup 2 (gCons (gN 2) (gCons (gN 3) gNil))) (t := bYes) (e := eTup (lCons (eCall F_edition_at (aCons (eV 2) aNil)) (lCons (eCall F_edition_at (aCons (eV 3) aNil)) lNil)))
    (ss := [.imm (Datum.toD ps), .imm (.list ((join (srt ps)).map Datum.toD)), .un, .un]) (fun p : Pr => (Datum.toD p : D)) (fun _ => true) (fun p => (.tuple [Datum.toD (at_ p.1), Datum.toD (at_ p.2)] : D)) (join (srt ps)) fun p hp => by
      unfold turnF
      simp [lend, lendS, unlend, unlendS, wipeS, edition_at_eq, sp_D]
  have hf : (join (srt ps)).filter (fun _ => true) = join (srt ps) := List.filter_eq_self.mpr fun _ _ => rfl
  rw [hf] at hc
  have hlen : (join (srt ps)).length ≤ 10000 := by
    unfold join
    rw [List.length_reverse]
    simpa using h2
  have hj : List.map Datum.toD (List.foldl jstep [] (srt ps)).reverse = (join (srt ps)).map Datum.toD := rfl
  simp only [List.replicate] 
  simp [hs, h1, wipeS, backS, backF, keepS]
  rw [← List.map_reverse, hj, hc]
  simp
  rw [if_pos (by omega)]
  simp [backS, backF, keepS]
  rw [ra_eq]
end G

set_option maxHeartbeats 1000000
namespace G
open PySem Dt Dm Dk Rn
open L2 (atI ixN)
open PySem.W (Datum DatumOrd Tup T3 T4)
def mx (i j : Int) : Int := if j > i then j else i
def mn (i j : Int) : Int := if j < i then j else i
def prods (ps qs : List Pr) : List Pr := ps.flatMap fun p => qs.map fun q => (mx p.1 q.1, mn p.2 q.2)
theorem prods_len (ps qs : List Pr) : (prods ps qs).length = ps.length * qs.length := by
  unfold prods
  induction ps with
  | nil => simp
  | cons p r ih => rw [List.flatMap_cons, List.length_append, ih, List.length_map, List.length_cons, Nat.succ_mul, Nat.add_comm]
def nep (ps : List Pr) : List Pr := ps.filter fun p => decide (p.1 ≤ p.2)
theorem nep_len (ps : List Pr) : (nep ps).length ≤ ps.length := List.length_filter_le _ _
theorem both_eq (a b : List Pr) (ha : Rg 100 a) (hb : Rg 100 b) : ev2 F_both (ra a) (ra b) = some (ra (join (srt (nep (prods a b))))) := by
  unfold F_both
  rw [q_ev2]
  unfold B_both
  have l1 := ha.len
  have l2 := hb.len
  have s1 := spans_of_ra a ha.bd (by omega)
  have s2 := spans_of_ra b hb.bd (by omega)
  have lp : (prods a b).length ≤ 10000 := by
    rw [prods_len]
    exact Nat.le_trans (Nat.mul_le_mul l1 l2) (by decide)
  have ln := nep_len (prods a b)
  have h2 := comp2_map (β := Pr) (vs := [3, 4]) (vs1 := [4]) (g := gN 3) (t := bYes) (src := lSeq (eCall F_spans_of (aCons (eV 1) aNil))) (g1 := gN 4) (t1 := bYes) (e := eTup (lCons (eCB gMax (lCons (eOp dIx (eV 3) (eC (.int 0))) (lCons (eOp dIx (eV 4) (eC (.int 0))) lNil))) (lCons (eCB gMin (lCons (eOp dIx (eV 3) (eC (.int 1))) (lCons (eOp dIx (eV 4) (eC (.int 1))) lNil))) lNil)))
    (ss := [.imm (ra a), .imm (ra b), .un, .un, .un, .un]) (fun p : Pr => (Datum.toD p : D)) (fun p => b.map fun q => (Datum.toD ((mx p.1 q.1, mn p.2 q.2) : Pr) : D)) a fun p hp => by
      have h1 := comp_map (vs := [4]) (g := gN 4) (t := bYes) (e := eTup (lCons (eCB gMax (lCons (eOp dIx (eV 3) (eC (.int 0))) (lCons (eOp dIx (eV 4) (eC (.int 0))) lNil))) (lCons (eCB gMin (lCons (eOp dIx (eV 3) (eC (.int 1))) (lCons (eOp dIx (eV 4) (eC (.int 1))) lNil))) lNil)))
        (ss := [.imm (ra a), .imm (ra b), .un, .imm (Datum.toD p), .un, .un]) (fun p : Pr => (Datum.toD p : D)) (fun _ => true) (fun q => (Datum.toD ((mx p.1 q.1, mn p.2 q.2) : Pr) : D)) b fun q hq => by
          unfold turnF
          simp [lend, lendS, unlend, unlendS, wipeS, sp_D, mx, mn]
      have hf : b.filter (fun _ => true) = b := List.filter_eq_self.mpr fun _ _ => rfl
      rw [hf] at h1
      unfold turn2F
      have hi : itemsOf (Datum.toD b) = some (b.map fun p : Pr => (Datum.toD p : D)) := rfl
      simp [lend, lendS, unlend, unlendS, wipeS, s2, hi, h1]
  have hfl : (a.flatMap fun p => b.map fun q => (Datum.toD ((mx p.1 q.1, mn p.2 q.2) : Pr) : D)) = (prods a b).map Datum.toD := by
    unfold prods
    rw [List.map_flatMap]
    simp
    rfl
  have h3 := comp_map (vs := [5]) (g := gN 5) (t := bOf (eOp dLe (eOp dIx (eV 5) (eC (.int 0))) (eOp dIx (eV 5) (eC (.int 1))))) (e := eV 5)
    (ss := [.imm (ra a), .imm (ra b), .imm (.list ((prods a b).map Datum.toD)), .un, .un, .un]) (fun p : Pr => (Datum.toD p : D)) (fun p => decide (p.1 ≤ p.2)) (fun p => (Datum.toD p : D)) (prods a b) fun p hp => by
      unfold turnF
      by_cases h : p.1 ≤ p.2 <;> simp [lend, lendS, unlend, unlendS, wipeS, sp_D, h]
  have hi : itemsOf (Datum.toD a) = some (a.map fun p : Pr => (Datum.toD p : D)) := rfl
  rw [hfl] at h2
  have hj := joined_eq (nep (prods a b)) (by omega)
  have e1 : (Datum.toD (nep (prods a b)) : D) = .list ((nep (prods a b)).map Datum.toD) := rfl
  rw [e1] at hj
  unfold nep at hj
  simp [s1, hi, wipeS, h2, backS, backF, keepS]
  rw [if_pos (by omega)]
  simp [wipeS, h3]
  rw [if_pos (by unfold nep at ln; omega)]
  simp [backS, backF, keepS, hj]
  rfl
theorem both_ok {n m : Nat} {a b : List Pr} (ha : Rg n a) (hb : Rg m b) (hn : n ≤ 100) (hm : m ≤ 100) : ∃ c, ev2 F_both (ra a) (ra b) = some (ra c) ∧ Rg (n * m) c ∧ ∀ x, Mem c x ↔ Mem a x ∧ Mem b x := by
  have l1 := ha.len
  have l2 := hb.len
  obtain ⟨h1, h2⟩ := join_srt (n := n * m) (ps := nep (prods a b)) (fun p hp => by
    obtain ⟨hp, hd⟩ := List.mem_filter.mp hp
    have hd := of_decide_eq_true hd
    obtain ⟨q, hq, hp⟩ := List.mem_flatMap.mp hp
    obtain ⟨r, hr, rfl⟩ := List.mem_map.mp hp
    have := can_all ha.can (Int.le_refl _) q hq
    have := can_all hb.can (Int.le_refl _) r hr
    simp only [mx, mn] at *
    repeat' split at *
    all_goals omega) (Nat.le_trans (nep_len _) (by rw [prods_len]; exact Nat.mul_le_mul l1 l2))
  refine ⟨_, both_eq a b ⟨ha.can, by omega⟩ ⟨hb.can, by omega⟩, h1, fun x => ?_⟩
  rw [h2]
  constructor
  · rintro ⟨p, hp, h3, h4⟩
    obtain ⟨hp, hd⟩ := List.mem_filter.mp hp
    obtain ⟨q, hq, hp⟩ := List.mem_flatMap.mp hp
    obtain ⟨r, hr, rfl⟩ := List.mem_map.mp hp
    simp only [mx, mn] at h3 h4
    refine ⟨⟨q, hq, ?_⟩, ⟨r, hr, ?_⟩⟩
    · repeat' split at *
      all_goals omega
    · repeat' split at *
      all_goals omega
  · rintro ⟨⟨q, hq, h3⟩, ⟨r, hr, h4⟩⟩
    refine ⟨(mx q.1 r.1, mn q.2 r.2), List.mem_filter.mpr ⟨List.mem_flatMap.mpr ⟨q, hq, List.mem_map.mpr ⟨r, hr, rfl⟩⟩, decide_eq_true ?_⟩, ?_⟩
    · simp only [mx, mn]
      repeat' split
      all_goals omega
    · simp only [mx, mn]
      repeat' split
      all_goals omega
end G

set_option maxHeartbeats 1000000
/-! what a ware asks: asks -/
namespace G
open PySem Dt Dm Dk Rn DtX
open L2 (atI ixN)
open PySem.W (Datum DatumOrd Tup T3 T4)
theorem nodup_sub {α : Type} [DecidableEq α] : ∀ {l m : List α}, l.Nodup → (∀ x ∈ l, x ∈ m) → l.length ≤ m.length
  | [], _, _, _ => Nat.zero_le _
  | x :: l, m, hn, h => by
    obtain ⟨h1, h2⟩ := List.nodup_cons.mp hn
    have hx := h x List.mem_cons_self
    have := nodup_sub (m := m.erase x) h2 fun y hy => (List.mem_erase_of_ne (fun e => h1 (by rw [← e]; exact hy))).mpr (h y (List.mem_cons_of_mem _ hy))
    rw [List.length_erase_of_mem hx] at this
    have := List.length_pos_of_mem hx
    rw [List.length_cons]
    omega
theorem can_gap {hi : Int} : ∀ {ps : List Pr} {lo : Int}, Can lo hi ps → ∀ p ∈ ps, ¬Mem ps (p.1 - 1)
  | p :: r, lo, h, q, hq, hm => by
    obtain ⟨h1, h2, h3, h4⟩ := h
    rw [mem_cons] at hm
    rcases List.mem_cons.mp hq with rfl | hq
    · rcases hm with hm | hm
      · omega
      · have := (h4.low hm).1
        omega
    · have := (h4.low ⟨q, hq, Int.le_refl _, (can_le h4 q hq)⟩).1
      rcases hm with hm | hm
      · omega
      · exact can_gap h4 q hq hm
where can_le {hi : Int} : ∀ {ps : List Pr} {lo : Int}, Can lo hi ps → ∀ p ∈ ps, p.1 ≤ p.2
  | p :: r, lo, h, q, hq => by
    rcases List.mem_cons.mp hq with rfl | hq
    · exact h.2.1
    · exact can_le h.2.2.2 q hq
theorem can_nodup {hi : Int} : ∀ {ps : List Pr} {lo : Int}, Can lo hi ps → (ps.map (·.1)).Nodup
  | [], _, _ => List.nodup_nil
  | p :: r, lo, h => by
    obtain ⟨h1, h2, h3, h4⟩ := h
    rw [List.map_cons, List.nodup_cons]
    refine ⟨fun hm => ?_, can_nodup h4⟩
    obtain ⟨q, hq, e⟩ := List.mem_map.mp hm
    have := (h4.low ⟨q, hq, Int.le_refl _, can_gap.can_le h4 q hq⟩).1
    omega
theorem start_in {hi : Int} {ps : List Pr} {lo x : Int} (h : Can lo hi ps) (h1 : Mem ps x) (h2 : ¬Mem ps (x - 1)) : x ∈ ps.map (·.1) := by
  obtain ⟨q, hq, q1, q2⟩ := h1
  by_cases e : q.1 = x
  · exact e ▸ List.mem_map_of_mem hq
  · exact absurd ⟨q, hq, by omega, by omega⟩ h2
/-- what is in both ranges has no more stretches than the two together -/
theorem both_add {n m : Nat} {a b : List Pr} (ha : Rg n a) (hb : Rg m b) (hn : n ≤ 100) (hm : m ≤ 100) : ∃ c, ev2 F_both (ra a) (ra b) = some (ra c) ∧ Rg (n + m) c ∧ ∀ x, Mem c x ↔ Mem a x ∧ Mem b x := by
  obtain ⟨c, h1, h2, h3⟩ := both_ok ha hb hn hm
  refine ⟨c, h1, ⟨h2.can, ?_⟩, h3⟩
  have := nodup_sub (m := a.map (·.1) ++ b.map (·.1)) (can_nodup h2.can) fun x hx => by
    obtain ⟨p, hp, rfl⟩ := List.mem_map.mp hx
    have k1 : Mem c p.1 := ⟨p, hp, Int.le_refl _, can_gap.can_le h2.can p hp⟩
    have k2 := can_gap h2.can p hp
    rw [h3] at k1 k2
    rw [List.mem_append]
    by_cases k : Mem a (p.1 - 1)
    · exact .inr (start_in hb.can k1.2 fun z => k2 ⟨k, z⟩)
    · exact .inl (start_in ha.can k1.1 k)
  rw [List.length_append, List.length_map, List.length_map, List.length_map] at this
  have := ha.len
  have := hb.len
  omega
theorem q_ePkR (g : D → D → Option D) (i : Nat) (f : FE) (ss : SS) : ePkR g i f ss = (f ss).bind fun y s1 => match objAt s1 i with
    | some o => match g y o.toD with
      | some (.bool b) => .ok (.bool b) s1
      | _ => .no
    | none => .no := rfl
theorem tput_in {κ β : Type} [DecidableEq κ] {ws : List (κ × β)} {k : κ} {v : β} {p : κ × β} (h : p ∈ tput ws k v) : p = (k, v) ∨ (p ∈ ws ∧ p.1 ≠ k) := by
  unfold tput at h
  split at h
  · obtain ⟨q, hq, rfl⟩ := List.mem_map.mp h
    by_cases c : q.1 = k
    · rw [if_pos c]; exact .inl (by rw [← c])
    · rw [if_neg c]; exact .inr ⟨hq, c⟩
  · rename_i hn
    rcases List.mem_append.mp h with h | h
    · refine .inr ⟨h, fun e => hn (List.any_eq_true.mpr ⟨p, h, decide_eq_true e⟩)⟩
    · exact .inl (List.mem_singleton.mp h)
theorem tput_keyin {κ β : Type} [DecidableEq κ] (ws : List (κ × β)) (k : κ) (v : β) (j : κ) : j ∈ (tput ws k v).map (·.1) ↔ j = k ∨ j ∈ ws.map (·.1) := by
  rw [tput_keys]
  split
  · rename_i h
    obtain ⟨p, hp, e⟩ := List.any_eq_true.mp h
    have e := of_decide_eq_true e
    exact ⟨.inr, fun h => h.elim (fun h => by rw [h, ← e]; exact List.mem_map_of_mem hp) id⟩
  · rw [List.mem_append, List.mem_singleton, or_comm]
abbrev needD (ws : List (Str × Need)) : List (D × D) := ws.map (enc2 (fun x : Str => (.str x : D)) nd)
structure NB (q : Need) : Prop where
  rg : Rg 3 q.rng
  ex : q.exs.Pairwise fun a b => ltS a b = true
  sub : ∀ e ∈ q.exs, e = fastS ∨ e = slimS
structure ARow (done : List Need) (k : Str) (r : Need) : Prop where
  nm : r.name = k
  rg : Rg (3 * done.length) r.rng
  mem : ∀ x, Mem r.rng x ↔ (0 ≤ x ∧ x ≤ 999999) ∧ ∀ q ∈ done, q.name = k → Mem q.rng x
  ex : r.exs.Pairwise fun a b => ltS a b = true
  exm : ∀ e, e ∈ r.exs ↔ ∃ q ∈ done, q.name = k ∧ e ∈ q.exs
structure AI (done : List Need) (ws : List (Str × Need)) : Prop where
  nd : (ws.map (·.1)).Nodup
  ks : ∀ k, k ∈ ws.map (·.1) ↔ k ∈ done.map (·.name)
  row : ∀ p ∈ ws, ARow done p.1 p.2
theorem lt_irr (x : Str) : ltS x x = false := by simp [ltS]
theorem ex_nodup {l : List Str} (h : l.Pairwise fun a b => ltS a b = true) : l.Nodup := h.imp fun {a b} k e => by
  rw [e, lt_irr] at k; cases k
theorem ex_two {l : List Str} (h : l.Pairwise fun a b => ltS a b = true) (hs : ∀ e ∈ l, e = fastS ∨ e = slimS) : l.length ≤ 2 :=
  nodup_sub (m := [fastS, slimS]) (ex_nodup h) fun x hx => by simpa using hs x hx
/-- the row once a need more is taken in -/
theorem row_more {done : List Need} {ws : List (Str × Need)} (h : AI done ws) (q : Need) {r : Need} (hr : ARow (done ++ [q]) q.name r) : AI (done ++ [q]) (tput ws q.name r) := by
  refine ⟨tput_nodup h.nd _ _, fun k => ?_, fun p hp => ?_⟩
  · rw [tput_keyin, h.ks, List.map_append, List.mem_append, or_comm]
    simp
  · rcases tput_in hp with rfl | ⟨hp, hn⟩
    · exact hr
    · obtain ⟨h1, h2, h3, h4, h5⟩ := h.row p hp
      refine ⟨h1, ⟨h2.can, Nat.le_trans h2.len (by rw [List.length_append]; omega)⟩, fun x => ?_, h4, fun e => ?_⟩
      · rw [h3]
        simp only [List.mem_append, List.mem_singleton]
        exact ⟨fun ⟨a, b⟩ => ⟨a, fun z hz e => hz.elim (fun hz => b z hz e) fun hz => absurd (hz ▸ e).symm hn⟩, fun ⟨a, b⟩ => ⟨a, fun z hz e => b z (.inl hz) e⟩⟩
      · rw [h5]
        simp only [List.mem_append, List.mem_singleton]
        exact ⟨fun ⟨z, a, b, c⟩ => ⟨z, .inl a, b, c⟩, fun ⟨z, a, b, c⟩ => a.elim (fun a => ⟨z, a, b, c⟩) fun a => absurd (a ▸ b).symm hn⟩
theorem ask_step (W X N : D) (done : List Need) (ws : List (Str × Need)) (h : AI done ws) (q : Need) (hq : NB q) (hd : ∀ z ∈ done, NB z) (hl : done.length ≤ 30) (v7 v8 : Sl) : ∃ ws' v5 v6, L_asks_1_0 [.imm W, .imm X, .own (.dct (needD ws)), .imm N, .imm (.str q.name), .imm (ra q.rng), .imm (.tuple (q.exs.map sd)), v7, v8]
    = .nx [.imm W, .imm X, .own (.dct (needD ws')), .imm N, .imm (.str q.name), v5, v6, v7, v8] ∧ AI (done ++ [q]) ws' := by
  have hlen : (needD ws).length < 16777216 := by
    rw [List.length_map]
    have h1 := nodup_sub h.nd fun k hk => (h.ks k).mp hk
    rw [List.length_map, List.length_map] at h1
    omega
  have hin : dIn (.str q.name) (.dict (needD ws)) = some (.bool (tget ws q.name).isSome) := by
    have e := look_enc (vd := nd) kenc_str ws q.name
    have k := kvs_str nd ws
    unfold dIn inB
    simp only [needD, k]
    rw [if_pos (kGood_str q.name), e]
    cases tget ws q.name <;> rfl
  have hput : ∀ r : Need, dput (needD ws) (.str q.name) (nd r) = needD (tput ws q.name r) := fun r => dput_enc (vd := nd) kenc_str ws q.name r
  have hlook : look (needD ws) (.str q.name) = (tget ws q.name).map nd := look_enc (vd := nd) kenc_str ws q.name
  cases hg : tget ws q.name with
  | none =>
    rw [hg] at hin hlook
    have hno : q.name ∉ done.map (·.name) := fun hk => by
      obtain ⟨v, hv, _⟩ := tget_some ((h.ks _).mpr hk)
      rw [hg] at hv; cases hv
    have hrow : ARow (done ++ [q]) q.name q := by
      refine ⟨rfl, ⟨hq.rg.can, Nat.le_trans hq.rg.len (by rw [List.length_append, List.length_singleton]; omega)⟩, fun x => ?_, hq.ex, fun e => ?_⟩
      · simp only [List.mem_append, List.mem_singleton]
        exact ⟨fun hx => ⟨hq.rg.can.low hx, fun z hz e => hz.elim (fun hz => absurd (e ▸ List.mem_map_of_mem hz) hno) fun hz => hz ▸ hx⟩, fun ⟨_, b⟩ => b q (.inr rfl) rfl⟩
      · simp only [List.mem_append, List.mem_singleton]
        exact ⟨fun hx => ⟨q, .inr rfl, rfl, hx⟩, fun ⟨z, a, b, c⟩ => a.elim (fun a => absurd (b ▸ List.mem_map_of_mem a) hno) fun a => a ▸ c⟩
    have hp := hput q
    rw [nd] at hp
    refine ⟨tput ws q.name q, .imm (ra q.rng), .imm (.tuple (q.exs.map sd)), ?_, row_more h q hrow⟩
    generalize needD ws = T at *
    generalize needD (tput ws q.name q) = T' at *
    simp [q_ePkR, hin, hp]
    exact hlen
  | some r =>
    rw [hg] at hin hlook
    have hro : ARow done q.name r := h.row _ (tget_mem hg)
    obtain ⟨c, k1, k2, k3⟩ := both_add hro.rg hq.rg (by omega) (by omega)
    have hsub : ∀ e ∈ r.exs, e = fastS ∨ e = slimS := fun e he => by
      obtain ⟨z, a, b, d⟩ := (hro.exm e).mp he
      exact (hd z a).sub e d
    have l1 := ex_two hro.ex hsub
    have l2 := ex_two hq.ex hq.sub
    have hrow : ARow (done ++ [q]) q.name ⟨q.name, c, usetX (r.exs ++ q.exs)⟩ := by
      refine ⟨rfl, ⟨k2.can, Nat.le_trans k2.len (by rw [List.length_append, List.length_singleton]; omega)⟩, fun x => ?_, usetX_pair _, fun e => ?_⟩
      · show Mem c x ↔ _
        rw [k3, hro.mem]
        simp only [List.mem_append, List.mem_singleton]
        exact ⟨fun ⟨⟨a, b⟩, d⟩ => ⟨a, fun z hz e => hz.elim (fun hz => b z hz e) fun hz => hz ▸ d⟩, fun ⟨a, b⟩ => ⟨⟨a, fun z hz e => b z (.inl hz) e⟩, b q (.inr rfl) rfl⟩⟩
      · show e ∈ usetX _ ↔ _
        rw [usetX_mem, List.mem_append, hro.exm]
        simp only [List.mem_append, List.mem_singleton]
        exact ⟨fun h => h.elim (fun ⟨z, a, b, d⟩ => ⟨z, .inl a, b, d⟩) fun d => ⟨q, .inr rfl, rfl, d⟩, fun ⟨z, a, b, d⟩ => a.elim (fun a => .inl ⟨z, a, b, d⟩) fun a => .inr (a ▸ d)⟩
    have hp := hput ⟨q.name, c, usetX (r.exs ++ q.exs)⟩
    rw [nd] at hp
    simp only at hp
    have x1 : dIx (nd r) (.int 1) = some (ra r.rng) := rfl
    have x2 : dIx (nd r) (.int 2) = some (.tuple (r.exs.map sd)) := rfl
    simp only [Option.map_some] at hlook
    refine ⟨_, .imm (ra c), .imm (.tuple ((usetX (r.exs ++ q.exs)).map sd)), ?_, row_more h q hrow⟩
    generalize needD ws = T at *
    generalize needD (tput ws q.name ⟨q.name, c, usetX (r.exs ++ q.exs)⟩) = T' at *
    have a0 : S_asks_1_0_0_a0 [.imm W, .imm X, .own (.dct T), .imm N, .imm (.str q.name), .imm (ra q.rng), .imm (.tuple (q.exs.map sd)), v7, v8] = .nx [.imm W, .imm X, .own (.dct T), .imm N, .imm (.str q.name), .imm (ra c), .imm (.tuple (q.exs.map sd)), v7, v8] := by
      simp [hlook, x1, k1]
    have hss := nSSA_t (f := eOp dAdd (eOp dIx (eOixD 2 (eV 4)) (eC (.int 2))) (eV 6)) (ss := [.imm W, .imm X, .own (.dct T), .imm N, .imm (.str q.name), .imm (ra c), .imm (.tuple (q.exs.map sd)), v7, v8]) (s1 := [.imm W, .imm X, .own (.dct T), .imm N, .imm (.str q.name), .imm (ra c), .imm (.tuple (q.exs.map sd)), v7, v8]) (ns := r.exs ++ q.exs) (by
      have : r.exs.length + q.exs.length ≤ 16777216 := by omega
      simp [hlook, x2, this]) (by rw [List.length_append]; omega)
    have a1 : S_asks_1_0_0_a1 [.imm W, .imm X, .own (.dct T), .imm N, .imm (.str q.name), .imm (ra c), .imm (.tuple (q.exs.map sd)), v7, v8] = .nx [.imm W, .imm X, .own (.dct T), .imm N, .imm (.str q.name), .imm (ra c), .imm (.tuple ((usetX (r.exs ++ q.exs)).map sd)), v7, v8] := by
      simp only [S_asks_1_0_0_a1, q_sAsg]
      simp [-q_nSSA, hss]
    have a2 : S_asks_1_0_0 [.imm W, .imm X, .own (.dct T), .imm N, .imm (.str q.name), .imm (ra q.rng), .imm (.tuple (q.exs.map sd)), v7, v8] = .nx [.imm W, .imm X, .own (.dct T), .imm N, .imm (.str q.name), .imm (ra c), .imm (.tuple ((usetX (r.exs ++ q.exs)).map sd)), v7, v8] := by
      simp only [S_asks_1_0_0, q_sIf]
      have hc : bOf (ePkR dIn 2 (eV 4)) [.imm W, .imm X, .own (.dct T), .imm N, .imm (.str q.name), .imm (ra q.rng), .imm (.tuple (q.exs.map sd)), v7, v8] = .ok true [.imm W, .imm X, .own (.dct T), .imm N, .imm (.str q.name), .imm (ra q.rng), .imm (.tuple (q.exs.map sd)), v7, v8] := by simp [q_ePkR, hin]
      rw [hc]
      simp only [if_true]
      rw [seq_nx a0, a1]
    unfold L_asks_1_0
    rw [seq_nx a2]
    simp [hp]
    exact hlen
end G

set_option maxHeartbeats 1000000
/-! asks: the whole -/
namespace G
open PySem Dt Dm Dk Rn DtX
open L2 (atI ixN)
open PySem.W (Datum DatumOrd Tup T3 T4)
structure AskW (w : Ware) : Prop where
  n1 : ∀ q ∈ w.needs, NB q
  n2 : w.needs.length ≤ 10
  x1 : w.extras.length ≤ 4
  x2 : ∀ p ∈ w.extras, p.2.length ≤ 4 ∧ ∀ q ∈ p.2, NB q
def askLs (w : Ware) (es : List Str) : List (List Need) := w.needs :: ((w.extras.filter fun p => decide (p.1 ∈ es)).map (·.2))
def asked (w : Ware) (es : List Str) : List Need := (askLs w es).flatten
structure Asked (qs rs : List Need) : Prop where
  inc : (rs.map (·.name)).Pairwise fun a b => DatumOrd.lt a b = true
  ks : ∀ k, k ∈ rs.map (·.name) ↔ k ∈ qs.map (·.name)
  row : ∀ r ∈ rs, ARow qs r.name r
theorem asked_nb {w : Ware} (h : AskW w) (es : List Str) : (∀ q ∈ asked w es, NB q) ∧ (asked w es).length ≤ 26 := by
  unfold asked askLs
  rw [List.flatten_cons]
  constructor
  · intro q hq
    rcases List.mem_append.mp hq with hq | hq
    · exact h.n1 q hq
    · obtain ⟨L, hL, hq⟩ := List.mem_flatten.mp hq
      obtain ⟨p, hp, rfl⟩ := List.mem_map.mp hL
      exact (h.x2 p (List.mem_filter.mp hp).1).2 q hq
  · rw [List.length_append]
    have key : ∀ l : List (Str × List Need), (∀ p ∈ l, p.2.length ≤ 4) → (l.map (·.2)).flatten.length ≤ 4 * l.length := by
      intro l
      induction l with
      | nil => intro _; simp
      | cons p l ih =>
        intro hl
        have := ih fun z hz => hl z (List.mem_cons_of_mem _ hz)
        have := hl p List.mem_cons_self
        rw [List.map_cons, List.flatten_cons, List.length_append, List.length_cons]
        omega
    have k1 := key (w.extras.filter fun p => decide (p.1 ∈ es)) fun p hp => (h.x2 p (List.mem_filter.mp hp).1).1
    have k2 := List.length_filter_le (fun p : Str × List Need => decide (p.1 ∈ es)) w.extras
    have := h.n2
    have := h.x1
    omega
theorem inner_run (W X : D) (L done : List Need) (ws : List (Str × Need)) (h : AI done ws) (hb : ∀ z ∈ done ++ L, NB z) (hl : (done ++ L).length ≤ 30) (v4 v5 v6 v7 v8 : Sl) : ∃ ws' v4' v5' v6', S_asks_1_0 [.imm W, .imm X, .own (.dct (needD ws)), .imm (.tuple (L.map nd)), v4, v5, v6, v7, v8]
    = .nx [.imm W, .imm X, .own (.dct (needD ws')), .imm (.tuple (L.map nd)), v4', v5', v6', v7, v8] ∧ AI (done ++ L) ws' := by
  have hi : lSeq (eV 3) [.imm W, .imm X, .own (.dct (needD ws)), .imm (.tuple (L.map nd)), v4, v5, v6, v7, v8] = .ok (L.map nd) [.imm W, .imm X, .own (.dct (needD ws)), .imm (.tuple (L.map nd)), v4, v5, v6, v7, v8] := by simp
  simp only [S_asks_1_0, q_sFor, hi]
  generalize hL : loopF _ _ _ _ = oo
  generalize hN : (.tuple (L.map nd) : D) = N at *
  obtain ⟨s2, rfl, dn, ws', w4, w5, w6, e, rfl, a⟩ := loop_invE hL (fun rest ss => ∃ dn ws w4 w5 w6, dn ++ rest = done ++ L ∧ ss = [.imm W, .imm X, .own (.dct (needD ws)), .imm N, w4, w5, w6, v7, v8] ∧ AI dn ws) ⟨done, ws, _, _, _, rfl, rfl, h⟩ (fun q r ss hR => by
    obtain ⟨dn, ws, w4, w5, w6, e, rfl, a⟩ := hR
    rw [← e] at hb hl
    rw [List.length_append, List.length_cons] at hl
    obtain ⟨ws', u5, u6, k1, k2⟩ := ask_step W X N dn ws a q (hb q (by simp)) (fun z hz => hb z (by simp [hz])) (by omega) v7 v8
    refine ⟨_, _, ?_, .inl k1, dn ++ [q], ws', _, _, _, by rw [← e]; simp, rfl, k2⟩
    simp [nd])
  rw [List.append_nil] at e
  subst e
  exact ⟨_, _, _, _, rfl, a⟩
theorem srt_strict {ks : List Str} (h : ks.Nodup) : (srt ks).Pairwise fun a b => DatumOrd.lt a b = true := by
  have h1 := srt_pair ks
  have h2 : (srt ks).Nodup := (srt_perm ks).nodup_iff.mpr h
  exact (h1.and h2).imp fun {a b} ⟨k1, k2⟩ => str_tri k1 k2
theorem asks_ok {w : Ware} (h : AskW w) (es : List Str) : ∃ rs, ev2 F_asks (wd w) (.tuple (es.map sd)) = some (.tuple (rs.map nd)) ∧ Asked (asked w es) rs := by
  unfold F_asks
  rw [q_ev2]
  unfold B_asks
  obtain ⟨hb, hl⟩ := asked_nb h es
  have i2 : dIx (wd w) (.int 2) = some (.tuple (w.needs.map nd)) := rfl
  have i3 : dIx (wd w) (.int 3) = some (.tuple (w.extras.map exd)) := rfl
  generalize hW : wd w = W at *
  generalize hX : (.tuple (es.map sd) : D) = X
  have hin : ∀ x : Str, dIn (.str x) X = some (.bool (decide (x ∈ es))) := fun x => by rw [← hX]; exact in_dat_t x es
  have k0 : S_asks_0 [.imm W, .imm X, .un, .un, .un, .un, .un, .un, .un] = .nx [.imm W, .imm X, .own (.dct []), .un, .un, .un, .un, .un, .un] := by simp
  have hc := comp_map (vs := [7, 8]) (g := gTup 2 (gCons (gN 7) (gCons (gN 8) gNil))) (t := bOf (eOp dIn (eV 7) (eV 1))) (e := eV 8) (ss := [.imm W, .imm X, .own (.dct []), .un, .un, .un, .un, .un, .un]) exd (fun p => decide (p.1 ∈ es)) (fun p : Str × List Need => (.tuple (p.2.map nd) : D)) w.extras fun p hp => by
    have := hin p.1
    unfold turnF
    by_cases c : p.1 ∈ es <;> simp [lend, lendS, unlend, unlendS, wipeS, exd, this, c]
  have hlx : (w.extras.filter fun p => decide (p.1 ∈ es)).length ≤ 4 := Nat.le_trans (List.length_filter_le _ _) h.x1
  have els : (.tuple (w.needs.map nd) :: ((w.extras.filter fun p => decide (p.1 ∈ es)).map fun p : Str × List Need => (.tuple (p.2.map nd) : D))) = (askLs w es).map fun L : List Need => (.tuple (L.map nd) : D) := by
    unfold askLs
    rw [List.map_cons, List.map_map]
    rfl
  have hi : lSeq (eOp dAdd (eFz (nLst (lCons (eOp dIx (eV 0) (eC (.int 2))) lNil))) (eFz (nLc [7, 8] (lSeq (eOp dIx (eV 0) (eC (.int 3)))) (gTup 2 (gCons (gN 7) (gCons (gN 8) gNil))) (bOf (eOp dIn (eV 7) (eV 1))) (eV 8)))) [.imm W, .imm X, .own (.dct []), .un, .un, .un, .un, .un, .un] = .ok ((askLs w es).map fun L : List Need => (.tuple (L.map nd) : D)) [.imm W, .imm X, .own (.dct []), .un, .un, .un, .un, .un, .un] := by
    rw [← els]
    have l1 : (w.extras.filter fun p => decide (p.1 ∈ es)).length ≤ 16777216 := by omega
    have l2 : 1 + (w.extras.filter fun p => decide (p.1 ∈ es)).length ≤ 16777216 := by omega
    simp [i2, i3, wipeS, hc, backS, backF, keepS, l1, l2]
  obtain ⟨ws, v3, v4, v5, v6, k1, ha⟩ : ∃ ws v3 v4 v5 v6, S_asks_1 [.imm W, .imm X, .own (.dct []), .un, .un, .un, .un, .un, .un] = .nx [.imm W, .imm X, .own (.dct (needD ws)), v3, v4, v5, v6, .un, .un] ∧ AI (asked w es) ws := by
    simp only [S_asks_1, q_sFor, hi]
    generalize hL : loopF _ _ _ _ = oo
    obtain ⟨s2, rfl, dn, ws, v3, v4, v5, v6, e, rfl, a⟩ := loop_invE hL (fun rest ss => ∃ dn ws v3 v4 v5 v6, dn ++ rest.flatten = asked w es ∧ ss = [.imm W, .imm X, .own (.dct (needD ws)), v3, v4, v5, v6, .un, .un] ∧ AI dn ws) ⟨[], [], _, _, _, _, rfl, rfl, ⟨List.nodup_nil, fun k => by simp, fun p hp => nomatch hp⟩⟩ (fun L r ss hR => by
      obtain ⟨dn, ws, v3, v4, v5, v6, e, rfl, a⟩ := hR
      rw [List.flatten_cons] at e
      rw [← e] at hb hl
      obtain ⟨ws', u4, u5, u6, k1, k2⟩ := inner_run W X L dn ws a (fun z hz => hb z (by rw [← List.append_assoc]; exact List.mem_append_left _ hz)) (by rw [← List.append_assoc, List.length_append] at hl; omega) v4 v5 v6 .un .un
      exact ⟨_, _, by simp, .inl k1, dn ++ L, ws', _, _, _, _, by rw [← e]; simp, rfl, k2⟩)
    rw [List.flatten_nil, List.append_nil] at e
    subst e
    exact ⟨_, _, _, _, _, rfl, a⟩
  have hkl : (ws.map (·.1)).length ≤ 26 := by
    have := nodup_sub ha.nd fun k hk => (ha.ks k).mp hk
    rw [List.length_map (as := asked w es)] at this
    omega
  have hs : gSorted [.dict (needD ws)] = some (.lst ((srt (ws.map (·.1))).map sd)) := sorted_str nd ws
  have hmem : ∀ k, k ∈ srt (ws.map (·.1)) ↔ k ∈ ws.map (·.1) := fun k => (srt_perm _).mem_iff
  have hks : (srt (ws.map (·.1))).length ≤ 26 := by rw [(srt_perm _).length_eq]; exact hkl
  have hst := srt_strict ha.nd
  generalize srt (ws.map (·.1)) = ks at *
  have hget : ∀ k ∈ ks, ∃ r, tget ws k = some r ∧ ARow (asked w es) k r := fun k hk => by
    obtain ⟨r, h1, h2⟩ := tget_some ((hmem k).mp hk)
    exact ⟨r, h1, ha.row _ h2⟩
  have hdx : ∀ k, dIx (.dict (needD ws)) (.str k) = (tget ws k).map nd := fun k => dix_str nd ws k
  have hn := nLc_all (vs := [4]) (src := lSeq (eFz (nCB gSorted (lCons (eVF 2) lNil)))) (g := gN 4) (t := bYes) (e := eOp dIx (eV 2) (eV 4)) (ss := [.imm W, .imm X, .own (.dct (needD ws)), v3, v4, v5, v6, .un, .un]) (ss1 := [.imm W, .imm X, .imm (.dict (needD ws)), v3, v4, v5, v6, .un, .un]) sd (fun k => nd ((tget ws k).getD ⟨k, [], []⟩)) ks (by
      generalize needD ws = T at *
      simp [hs]) (fun k hk => by
    obtain ⟨r, h1, _⟩ := hget k hk
    have := hdx k
    rw [h1] at this ⊢
    generalize needD ws = T at *
    unfold turnF
    simp [wipeS, this]) (by show _ ≤ 16777216; omega)
  have k2 : S_asks_2 [.imm W, .imm X, .own (.dct (needD ws)), v3, v4, v5, v6, .un, .un] = .rt (.imm (.tuple (ks.map fun k => nd ((tget ws k).getD ⟨k, [], []⟩)))) [.imm W, .imm X, .imm (.dict (needD ws)), v3, keepS v4, v5, v6, .un, .un] := by
    generalize needD ws = T at *
    simp only [S_asks_2, q_sRet]
    simp [-q_nLc, hn]
  refine ⟨ks.map fun k => (tget ws k).getD ⟨k, [], []⟩, ?_, ?_, ?_, ?_⟩
  · show fin 2 ((sSeq S_asks_0 (sSeq S_asks_1 S_asks_2)) [.imm W, .imm X, .un, .un, .un, .un, .un, .un, .un]) = _
    rw [seq_nx k0, seq_nx k1, k2, List.map_map]
    rfl
  · have : (ks.map fun k => (tget ws k).getD ⟨k, [], []⟩).map (·.name) = ks := by
      rw [List.map_map]
      conv => rhs; rw [← List.map_id ks]
      refine List.map_congr_left fun k hk => ?_
      obtain ⟨r, h1, h2⟩ := hget k hk
      show ((tget ws k).getD _).name = k
      rw [h1]; exact h2.nm
    rw [this]; exact hst
  · intro k
    have : (ks.map fun k => (tget ws k).getD ⟨k, [], []⟩).map (·.name) = ks := by
      rw [List.map_map]
      conv => rhs; rw [← List.map_id ks]
      refine List.map_congr_left fun k hk => ?_
      obtain ⟨r, h1, h2⟩ := hget k hk
      show ((tget ws k).getD _).name = k
      rw [h1]; exact h2.nm
    rw [this, hmem, ha.ks]
  · intro r hr
    obtain ⟨k, hk, rfl⟩ := List.mem_map.mp hr
    obtain ⟨r, h1, h2⟩ := hget k hk
    rw [h1]
    show ARow _ r.name r
    rw [h2.nm]; exact h2
end G

set_option maxHeartbeats 1000000
/-! places near the ends of ranges, and in ranges, by the law -/
namespace G
open PySem Dt Dm Dk Rn DtX
open L2 (atI ixN)
open PySem.W (Datum DatumOrd Tup T3 T4)
theorem law_place_at (p : Int) (h0 : 0 ≤ p) (h1 : p ≤ 999999) : ev1 F__law_place (Datum.toD (at_ p)) = some (.int p) := by
  have := law_place_eq (x := p / 10000) (y := p / 100 % 100) (z := p % 100) (by omega) (by omega) (by omega)
  rw [show p / 10000 * 10000 + p / 100 % 100 * 100 + p % 100 = p by omega] at this
  exact this
theorem any_mem (a : List Pr) (x : Int) : (a.any fun p => decide (p.1 ≤ x) && decide (x ≤ p.2)) = decide (Mem a x) := by
  rw [Bool.eq_iff_iff, decide_eq_true_eq, List.any_eq_true]
  simp [Mem]
theorem ra_map (ps : List Pr) : ra ps = .tuple (ps.map fun p => .tuple [Datum.toD (at_ p.1), Datum.toD (at_ p.2)]) := ra_eq ps
theorem law_in_eq {n : Nat} {a : List Pr} (ha : Rg n a) (hn : n ≤ 9000) (x : Int) : ev2 F__law_in (ra a) (.int x) = some (.bool (decide (Mem a x))) := by
  unfold F__law_in
  rw [q_ev2]
  unfold B__law_in
  have l1 := ha.len
  simp [-q_nLc]
  rw [nLc_filt (fun p : Pr => (.tuple [Datum.toD (at_ p.1), Datum.toD (at_ p.2)] : D)) (fun p => decide (p.1 ≤ x) && decide (x ≤ p.2)) (fun p => Datum.toD ((at_ p.1, at_ p.2) : Ed × Ed)) a ?hs ?h ?hl]
  case hs => simp [ra_map]
  case h =>
    intro p hp
    have := can_all ha.can (Int.le_refl _) p hp
    have e1 := law_place_at p.1 (by omega) (by omega)
    have e2 := law_place_at p.2 (by omega) (by omega)
    unfold turnF
    by_cases c : p.1 ≤ x <;> by_cases c2 : x ≤ p.2 <;> simp [lend, lendS, unlend, unlendS, wipeS, e1, e2, c, c2, ep_D]
  case hl => rw [q_size]; omega
  have hne := ne_dat ((a.filter fun p => decide (p.1 ≤ x) && decide (x ≤ p.2)).map fun p => ((at_ p.1, at_ p.2) : Ed × Ed)) []
  have e0 : (Datum.toD ((a.filter fun p => decide (p.1 ≤ x) && decide (x ≤ p.2)).map fun p => ((at_ p.1, at_ p.2) : Ed × Ed)) : D) = .list ((a.filter fun p => decide (p.1 ≤ x) && decide (x ≤ p.2)).map fun p => Datum.toD ((at_ p.1, at_ p.2) : Ed × Ed)) := by
    show PyData.list (List.map _ (List.map _ _)) = _
    rw [List.map_map]; rfl
  have e1 : (Datum.toD ([] : List (Ed × Ed)) : D) = .list [] := rfl
  rw [e0, e1] at hne
  simp [wipeS, backS, backF, keepS, hne]
  rw [← any_mem, Bool.eq_iff_iff]
  simp
def nearf (fs : List Int) (p : Pr) : List Int := fs ++ [p.1 + -1, p.1 + 0, p.1 + 1] ++ [p.2 + -1, p.2 + 0, p.2 + 1]
theorem near_len : ∀ (a : List Pr) (fs : List Int), (a.foldl nearf fs).length = fs.length + 6 * a.length
  | [], fs => by simp
  | p :: a, fs => by
    rw [List.foldl_cons, near_len a, List.length_cons]
    simp [nearf]
    omega
theorem near_mem (x : Int) : ∀ (a : List Pr) (fs : List Int), x ∈ a.foldl nearf fs ↔ x ∈ fs ∨ ∃ p ∈ a, x ∈ [p.1 + -1, p.1 + 0, p.1 + 1] ++ [p.2 + -1, p.2 + 0, p.2 + 1]
  | [], fs => by simp
  | p :: a, fs => by
    rw [List.foldl_cons, near_mem x a]
    unfold nearf
    rw [List.append_assoc, List.mem_append, or_assoc]
    refine or_congr_right ⟨fun h => ?_, fun h => ?_⟩
    · rcases h with h | ⟨q, hq, h⟩
      · exact ⟨p, List.mem_cons_self, h⟩
      · exact ⟨q, List.mem_cons_of_mem _ hq, h⟩
    · obtain ⟨q, hq, h⟩ := h
      rcases List.mem_cons.mp hq with rfl | hq
      · exact .inl h
      · exact .inr ⟨q, hq, h⟩
theorem near_inner {n : Nat} {a : List Pr} (ha : Rg n a) (hn : n ≤ 900) (S' : D) (v3 v4 : Sl) (fs : List Int) (hf : fs.length ≤ 9000) :
    ∃ v3' v4', S__law_near_1_0 [.imm S', .imm (.list (fs.map .int)), .imm (ra a), v3, v4, .un, .un, .un, .un] = .nx [.imm S', .imm (.list ((a.foldl nearf fs).map .int)), .imm (ra a), v3', v4', .un, .un, .un, .un] := by
  have l1 := ha.len
  have hi : lSeq (eV 2) [.imm S', .imm (.list (fs.map .int)), .imm (ra a), v3, v4, .un, .un, .un, .un] = .ok (a.map fun p => .tuple [Datum.toD (at_ p.1), Datum.toD (at_ p.2)]) [.imm S', .imm (.list (fs.map .int)), .imm (ra a), v3, v4, .un, .un, .un, .un] := by simp [ra_map]
  simp only [S__law_near_1_0, q_sFor, hi]
  generalize hL : loopF _ _ _ _ = o
  obtain ⟨s2, rfl, ⟨v3', v4', rfl⟩, _⟩ := loop_restE hL nearf (fun fs rest ss => (∃ v3 v4, ss = [.imm S', .imm (.list (fs.map .int)), .imm (ra a), v3, v4, .un, .un, .un, .un]) ∧ fs.length + 6 * rest.length ≤ 20000 ∧ ∀ p ∈ rest, 0 ≤ p.1 ∧ p.1 ≤ p.2 ∧ p.2 ≤ 999999) fs
    ⟨⟨_, _, rfl⟩, by omega, fun p hp => can_all ha.can (Int.le_refl _) p hp⟩ fun fs p rest ss hR => by
      obtain ⟨⟨v3, v4, rfl⟩, hb, hp⟩ := hR
      rw [List.length_cons] at hb
      have := hp p List.mem_cons_self
      have e1 := law_place_at p.1 (by omega) (by omega)
      have e2 := law_place_at p.2 (by omega) (by omega)
      refine ⟨[.imm S', .imm (.list (fs.map .int)), .imm (ra a), .imm (Datum.toD (at_ p.1)), .imm (Datum.toD (at_ p.2)), .un, .un, .un, .un], [.imm S', .imm (.list ((nearf fs p).map .int)), .imm (ra a), .imm (Datum.toD (at_ p.1)), .imm (Datum.toD (at_ p.2)), .un, .un, .un, .un], by simp, ?_, ⟨_, _, rfl⟩, ?_, fun q hq => hp q (List.mem_cons_of_mem _ hq)⟩
      · have b1 : fs.length + 3 ≤ 16777216 := by omega
        have b2 : fs.length + 3 + 3 ≤ 16777216 := by omega
        simp [e1, e2, b1, b2, nearf]
      · simp [nearf]
        omega
  exact ⟨v3', v4', rfl⟩
theorem insU_len (x : Int) : ∀ l : List Int, (insU x l).length ≤ l.length + 1
  | [] => by simp [insU]
  | y :: r => by
    have := insU_len x r
    unfold insU
    split
    · simp
    · split
      · simp
      · simp; omega
theorem uset_len : ∀ l : List Int, (uset l).length ≤ l.length
  | [] => Nat.le_refl _
  | y :: r => by
    have := insU_len y (uset r)
    have := uset_len r
    show (insU y (uset r)).length ≤ _
    rw [List.length_cons]; omega
def mids (us : List Int) : List Int := List.zipWith (fun x y => (x + y) / 2) us (us.drop 1)
theorem mids_mem : ∀ (us : List Int), (∀ x ∈ us, 0 ≤ x ∧ x ≤ 999999) → ∀ x ∈ mids us, 0 ≤ x ∧ x ≤ 999999
  | [], _, x, hx => by simp [mids] at hx
  | [y], _, x, hx => by simp [mids] at hx
  | y :: z :: us, h, x, hx => by
    have hy := h y List.mem_cons_self
    have hz := h z (List.mem_cons_of_mem _ List.mem_cons_self)
    have e : mids (y :: z :: us) = (y + z) / 2 :: mids (z :: us) := rfl
    rw [e] at hx
    rcases List.mem_cons.mp hx with rfl | hx
    · omega
    · exact mids_mem (z :: us) (fun w hw => h w (List.mem_cons_of_mem _ hw)) x hx
def nearA (Rs : List (List Pr)) : List Int := Rs.foldl (fun fs a => a.foldl nearf fs) [0, 999999]
theorem nearA_len : ∀ (Rs : List (List Pr)) (fs : List Int), (Rs.foldl (fun fs a => a.foldl nearf fs) fs).length = fs.length + 6 * (Rs.map (·.length)).sum
  | [], fs => by simp
  | a :: Rs, fs => by
    rw [List.foldl_cons, nearA_len Rs, near_len, List.map_cons, List.sum_cons]
    omega
def nearU (Rs : List (List Pr)) : List Int := uset ((nearA Rs).filter fun x => decide (0 ≤ x) && decide (x ≤ 999999))
theorem law_near_ok (Rs : List (List Pr)) (hR : ∀ a ∈ Rs, Rg 100 a) (hs : (Rs.map (·.length)).sum ≤ 300) (hu : (nearU Rs).length < 64) : ∃ ps : List Int, ev1 F__law_near (.list (Rs.map ra)) = some (.list (ps.map .int)) ∧ (∀ x ∈ ps, 0 ≤ x ∧ x ≤ 999999) ∧ ps.length ≤ 200 := by
  have hfl := nearA_len Rs [0, 999999]
  have hfl : (nearA Rs).length ≤ 1802 := by
    show (Rs.foldl (fun fs a => a.foldl nearf fs) [0, 999999]).length ≤ 1802
    rw [hfl]
    show 2 + _ ≤ _
    omega
  generalize hus : nearU Rs = us at hu
  have hus : uset ((nearA Rs).filter fun x => decide (0 ≤ x) && decide (x ≤ 999999)) = us := hus
  have hlo : ∀ x ∈ us, 0 ≤ x ∧ x ≤ 999999 := fun x hx => by
    rw [← hus, uset_mem, List.mem_filter] at hx
    simpa using hx.2
  have hml : (mids us).length ≤ 64 := by
    unfold mids; rw [List.length_zipWith]; omega
  refine ⟨us ++ mids us, ?_, fun x hx => ?_, by rw [List.length_append]; omega⟩
  · generalize hS' : (PyData.list (Rs.map ra) : D) = S'
    have k0 : S__law_near_0 [.imm S', .un, .un, .un, .un, .un, .un, .un, .un] = .nx [.imm S', .imm (.list (([0, 999999] : List Int).map .int)), .un, .un, .un, .un, .un, .un, .un] := by simp
    obtain ⟨w2, w3, w4, k1⟩ : ∃ w2 w3 w4, S__law_near_1 [.imm S', .imm (.list (([0, 999999] : List Int).map .int)), .un, .un, .un, .un, .un, .un, .un] = .nx [.imm S', .imm (.list ((nearA Rs).map .int)), w2, w3, w4, .un, .un, .un, .un] := by
      have hi : lSeq (eV 0) [.imm S', .imm (.list (([0, 999999] : List Int).map .int)), .un, .un, .un, .un, .un, .un, .un] = .ok (Rs.map ra) [.imm S', .imm (.list (([0, 999999] : List Int).map .int)), .un, .un, .un, .un, .un, .un, .un] := by rw [← hS']; simp
      simp only [S__law_near_1, q_sFor, hi]
      generalize hL : loopF _ _ _ _ = o
      obtain ⟨s2, rfl, ⟨w2, w3, w4, rfl⟩, _⟩ := loop_restE hL (fun fs a => a.foldl nearf fs) (fun fs rest ss => (∃ w2 w3 w4, ss = [.imm S', .imm (.list (fs.map .int)), w2, w3, w4, .un, .un, .un, .un]) ∧ fs.length + 6 * (rest.map (·.length)).sum ≤ 1802 ∧ ∀ a ∈ rest, Rg 100 a) [0, 999999]
        ⟨⟨_, _, _, rfl⟩, by show 2 + _ ≤ _; omega, hR⟩ fun fs a rest ss hR => by
          obtain ⟨⟨w2, w3, w4, rfl⟩, hb, hr⟩ := hR
          rw [List.map_cons, List.sum_cons] at hb
          obtain ⟨u3, u4, h1⟩ := near_inner (hr a List.mem_cons_self) (by decide) S' w3 w4 fs (by omega)
          exact ⟨_, _, rfl, h1, ⟨_, _, _, rfl⟩, by rw [near_len]; omega, fun b hb => hr b (List.mem_cons_of_mem _ hb)⟩
      exact ⟨w2, w3, w4, rfl⟩
    generalize nearA Rs = fs at *
    have hfil : (fs.filter fun x => decide (0 ≤ x) && decide (x ≤ 999999)).length < 4000 := Nat.lt_of_le_of_lt (Nat.le_trans (List.length_filter_le _ _) hfl) (by decide)
    have k2 : S__law_near_2 [.imm S', .imm (.list (fs.map .int)), w2, w3, w4, .un, .un, .un, .un] = .nx [.imm S', .imm (.list (us.map .int)), w2, w3, w4, .un, .un, .un, .un] := by
      simp only [S__law_near_2, q_sAsg, q_eFz, nSSB]
      rw [nLc_filt (fun x : Int => (.int x : D)) (fun x => decide (0 ≤ x) && decide (x ≤ 999999)) (fun x => .int x) fs ?hs ?h ?hl]
      case hs => simp
      case h =>
        intro x hx
        unfold turnF
        by_cases c : 0 ≤ x <;> by_cases c2 : x ≤ 999999 <;> simp [c, c2]
      case hl => rw [q_size]; omega
      simp only [q_bind_ok, q_toD_l, mapM_ints, hus]
      rw [if_pos ⟨hfil, hu⟩]
      simp
    have k3 : S__law_near_3 [.imm S', .imm (.list (us.map .int)), w2, w3, w4, .un, .un, .un, .un] = .rt (.imm (.list ((us ++ mids us).map .int))) [.imm S', .imm (.list (us.map .int)), w2, w3, w4, .un, .un, .un, .un] := by
      simp [-q_nLc]
      rw [nLc_pure (fun p : Int × Int => (.tuple [.int p.1, .int p.2] : D)) (fun p => .int ((p.1 + p.2) / 2)) (us.zip (us.drop 1)) ?hs ?h ?hl]
      case hs =>
        simp
        rw [← List.map_tail]
        exact zip_map PyData.int PyData.int us us.tail
      case h =>
        intro x hx
        simp [div_int]
      case hl => rw [q_size, List.length_zip]; omega
      have e : (us.zip (us.drop 1)).map (fun p => (.int ((p.1 + p.2) / 2) : D)) = (mids us).map .int := by
        unfold mids
        rw [List.zip, List.map_zipWith, List.map_zipWith]
      rw [e]
      have hle : us.length + (mids us).length ≤ 16777216 := by omega
      simp [hle]
    unfold F__law_near
    rw [q_ev1]
    unfold B__law_near
    show fin 1 ((sSeq S__law_near_0 _) [.imm S', .un, .un, .un, .un, .un, .un, .un, .un]) = _
    rw [seq_nx k0, seq_nx k1, seq_nx k2, k3]
    rfl
  · rcases List.mem_append.mp hx with hx | hx
    · exact hlo x hx
    · exact mids_mem us hlo x hx
end G

set_option maxHeartbeats 1000000
/-! str of a ware: it is short -/
namespace G
open PySem Dt Dm Dk Rn
open L2 (atI ixN)
open PySem.W (Datum DatumOrd Tup T3 T4)
/-- short leaves, and light, and plain -/
structure Sh (W m : Nat) (d : D) : Prop where
  lf : PyData.leavesShort 8 d = true
  wt : PyData.weight d ≤ W
  sh : PyData.showable d = true
  hd : PyData.hasDict d = false
  pl : PyData.plain d = true
  dp : PyData.depth d ≤ m
structure ShA (W m : Nat) (ds : List D) : Prop where
  lf : PyData.leavesShortAll 8 ds = true
  wt : PyData.weightAll ds ≤ W
  sh : PyData.showableAll ds = true
  hd : PyData.hasDictAll ds = false
  pl : PyData.plainAll ds = true
  dp : PyData.depthAll ds ≤ m
theorem shA_nil (m : Nat) : ShA 0 m [] := ⟨rfl, Nat.le_refl _, rfl, rfl, rfl, Nat.zero_le _⟩
theorem ShA.cons {W W' m : Nat} {d : D} {ds : List D} (h : Sh W m d) (k : ShA W' m ds) : ShA (W + 1 + W') m (d :: ds) := by
  refine ⟨?_, ?_, ?_, ?_, ?_, ?_⟩
  · simp only [PyData.leavesShortAll, h.lf, k.lf, Bool.and_self]
  · have := h.wt; have := k.wt; simp only [PyData.weightAll]; omega
  · simp only [PyData.showableAll, h.sh, k.sh, Bool.and_self]
  · simp only [PyData.hasDictAll, h.hd, k.hd, Bool.or_self]
  · simp only [PyData.plainAll, h.pl, k.pl, Bool.and_self]
  · have := h.dp; have := k.dp; simp only [PyData.depthAll]; omega
theorem Sh.mono {W W' m m' : Nat} {d : D} (h : Sh W m d) (a : W ≤ W') (b : m ≤ m') : Sh W' m' d := ⟨h.lf, Nat.le_trans h.wt a, h.sh, h.hd, h.pl, Nat.le_trans h.dp b⟩
theorem ShA.mono {W W' m m' : Nat} {ds : List D} (h : ShA W m ds) (a : W ≤ W') (b : m ≤ m') : ShA W' m' ds := ⟨h.lf, Nat.le_trans h.wt a, h.sh, h.hd, h.pl, Nat.le_trans h.dp b⟩
theorem sh_tup {W m : Nat} {ds : List D} (k : ShA W m ds) : Sh W (m + 1) (.tuple ds) := by
  refine ⟨?_, ?_, ?_, ?_, ?_, ?_⟩
  · simp only [PyData.leavesShort, k.lf]
  · simp only [PyData.weight]; exact k.wt
  · simp only [PyData.showable, k.sh]
  · simp only [PyData.hasDict, k.hd]
  · simp only [PyData.plain, k.pl]
  · simp only [PyData.depth]; have := k.dp; omega
theorem shA_map {α : Type} {W m : Nat} (f : α → D) : ∀ l : List α, (∀ x ∈ l, Sh W m (f x)) → ShA ((W + 1) * l.length) m (l.map f)
  | [], _ => shA_nil m
  | x :: l, h => by
    have := ShA.cons (h x List.mem_cons_self) (shA_map f l fun y hy => h y (List.mem_cons_of_mem _ hy))
    refine this.mono ?_ (Nat.le_refl _)
    rw [List.length_cons, Nat.mul_succ]
    omega
theorem sh_str {W : Nat} {x : Str} (h : Sm x) (hl : x.length ≤ W) (m : Nat) : Sh W m (.str x) := by
  refine ⟨?_, hl, rfl, rfl, rfl, Nat.zero_le _⟩
  simp only [PyData.leavesShort, List.all_eq_true, decide_eq_true_eq]
  intro c hc
  have := h c hc
  omega
theorem sh_int {i : Int} (h0 : 0 ≤ i) (h1 : i ≤ 99) (m : Nat) : Sh 7 m (.int i) := by
  obtain ⟨n, rfl⟩ := Int.eq_ofNat_of_zero_le h0
  have hn : n ≤ 99 := by omega
  have key : ∀ n : Fin 100, (PyData.leavesShort 8 (.int (n.val : Int)) = true ∧ PyData.weight (.int (n.val : Int)) ≤ 7) ∧ PyData.showable (.int (n.val : Int)) = true := by decide +kernel
  have := key ⟨n, by omega⟩
  exact ⟨this.1.1, this.1.2, this.2, rfl, rfl, Nat.zero_le _⟩
theorem sh_ed {e : Ed} (h : EdOk e) (m : Nat) : Sh 24 (m + 1) (Datum.toD e) := by
  obtain ⟨a, b, c⟩ := e
  obtain ⟨h1, h2, h3⟩ := h
  exact (sh_tup (ShA.cons (sh_int h1.1 h1.2 m) (ShA.cons (sh_int h2.1 h2.2 m) (ShA.cons (sh_int h3.1 h3.2 m) (shA_nil m))))).mono (by decide) (Nat.le_refl _)
theorem sh_ra {n : Nat} {ps : List Pr} (h : Rg n ps) : Sh (51 * n) 3 (ra ps) := by
  rw [ra_eq]
  refine (sh_tup (shA_map (W := 50) (m := 2) _ ps fun p hp => ?_)).mono (by have := h.len; omega) (Nat.le_refl _)
  have := can_all h.can (Int.le_refl _) p hp
  have e : ∀ x : Int, 0 ≤ x → x ≤ 999999 → EdOk (at_ x) := fun x h0 h1 => by unfold EdOk at_; simp only; omega
  exact (sh_tup (ShA.cons (sh_ed (e p.1 (by omega) (by omega)) 0) (ShA.cons (sh_ed (e p.2 (by omega) (by omega)) 0) (shA_nil 1)))).mono (by decide) (Nat.le_refl _)
theorem sm_fast : Sm fastS := by unfold Sm; decide +kernel
theorem sm_slim : Sm slimS := by unfold Sm; decide +kernel
theorem sh_fs {x : Str} (h : x ∈ [fastS, slimS]) (m : Nat) : Sh 4 m (.str x) := by
  simp only [List.mem_cons, List.not_mem_nil, or_false] at h
  rcases h with rfl | rfl
  · exact sh_str sm_fast (by decide) m
  · exact sh_str sm_slim (by decide) m
theorem sh_nd {names : List Str} {q : Need} (h : NeedOk names q) (hs : Sm q.name) (hl : q.name.length ≤ 1000) : Sh 1200 4 (nd q) := by
  have hx := h.ex.length_le
  have e : [fastS, slimS].length = 2 := rfl
  exact (sh_tup (ShA.cons (sh_str hs hl 3) (ShA.cons (sh_ra h.rg) (ShA.cons (sh_tup (m := 2) (shA_map (W := 4) sd q.exs fun x hx => sh_fs (h.ex.subset hx) 2)) (shA_nil 3))))).mono (by omega) (by decide)
theorem sh_nds {names : List Str} {qs : List Need} (h : NeedsOk names qs) (hs : ∀ x ∈ names, Sm x ∧ x.length ≤ 1000) : Sh (1201 * qs.length) 5 (.tuple (qs.map nd)) :=
  sh_tup (shA_map (W := 1200) (m := 4) nd qs fun q hq => sh_nd (h.all q hq) (hs _ (h.all q hq).nm).1 (hs _ (h.all q hq).nm).2)
end G

set_option maxHeartbeats 1000000
/-! k07: what is asked, right -/
namespace G
open PySem Dt Dm Dk Rn DtX
open L2 (atI ixN)
open PySem.W (Datum DatumOrd Tup T3 T4)
theorem law_asked_ok {w : Ware} (h : AskW w) (es : List Str) : ev2 F__law_asked (wd w) (.tuple (es.map sd)) = some (.list ((asked w es).map nd)) := by
  unfold F__law_asked
  rw [q_ev2]
  unfold B__law_asked
  have i2 : dIx (wd w) (.int 2) = some (.tuple (w.needs.map nd)) := rfl
  have i3 : dIx (wd w) (.int 3) = some (.tuple (w.extras.map exd)) := rfl
  generalize wd w = W at *
  generalize hX : (.tuple (es.map sd) : D) = X
  have hin : ∀ x : Str, dIn (.str x) X = some (.bool (decide (x ∈ es))) := fun x => by rw [← hX]; exact in_dat_t x es
  have k0 : S__law_asked_0 [.imm W, .imm X, .un, .un, .un] = .nx [.imm W, .imm X, .imm (.list (w.needs.map nd)), .un, .un] := by
    have : w.needs.length ≤ 16777216 := by have := h.n2; omega
    simp [i2, this]
  obtain ⟨v3, v4, k1⟩ : ∃ v3 v4, S__law_asked_1 [.imm W, .imm X, .imm (.list (w.needs.map nd)), .un, .un] = .nx [.imm W, .imm X, .imm (.list ((asked w es).map nd)), v3, v4] := by
    have hi : lSeq (eOp dIx (eV 0) (eC (.int 3))) [.imm W, .imm X, .imm (.list (w.needs.map nd)), .un, .un] = .ok (w.extras.map exd) [.imm W, .imm X, .imm (.list (w.needs.map nd)), .un, .un] := by simp [i3]
    simp only [S__law_asked_1, q_sFor, hi]
    generalize hL : loopF _ _ _ _ = o
    obtain ⟨s2, rfl, ⟨v3, v4, rfl⟩, _⟩ := loop_restE hL (fun (fs : List Need) (p : Str × List Need) => if p.1 ∈ es then fs ++ p.2 else fs) (fun fs rest ss => (∃ v3 v4, ss = [.imm W, .imm X, .imm (.list (fs.map nd)), v3, v4]) ∧ fs.length + 4 * rest.length ≤ 26 ∧ ∀ p ∈ rest, p.2.length ≤ 4) w.needs
      ⟨⟨_, _, rfl⟩, by have := h.n2; have := h.x1; omega, fun p hp => (h.x2 p hp).1⟩ fun fs p rest ss hR => by
        obtain ⟨⟨v3, v4, rfl⟩, hb, hr⟩ := hR
        rw [List.length_cons] at hb
        have hp := hr p List.mem_cons_self
        refine ⟨[.imm W, .imm X, .imm (.list (fs.map nd)), .imm (.str p.1), .imm (.tuple (p.2.map nd))], [.imm W, .imm X, .imm (.list ((if p.1 ∈ es then fs ++ p.2 else fs).map nd)), .imm (.str p.1), .imm (.tuple (p.2.map nd))], by simp [exd], ?_, ⟨_, _, rfl⟩, ?_, fun q hq => hr q (List.mem_cons_of_mem _ hq)⟩
        · have q := hin p.1
          have l1 : p.2.length ≤ 16777216 := by omega
          have l2 : fs.length + p.2.length ≤ 16777216 := by omega
          by_cases c : p.1 ∈ es <;> simp [q, c, l1, l2]
        · split
          · rw [List.length_append]; omega
          · omega
    refine ⟨v3, v4, ?_⟩
    have e : w.extras.foldl (fun (fs : List Need) (p : Str × List Need) => if p.1 ∈ es then fs ++ p.2 else fs) w.needs = asked w es := by
      unfold asked askLs
      rw [List.flatten_cons]
      generalize w.needs = fs
      induction w.extras generalizing fs with
      | nil => simp
      | cons p r ih =>
        rw [List.foldl_cons, ih, List.filter_cons]
        by_cases c : p.1 ∈ es
        · simp [c]
        · simp [c]
    rw [e]
  show fin 2 ((sSeq S__law_asked_0 _) [.imm W, .imm X, .un, .un, .un]) = _
  rw [seq_nx k0, seq_nx k1]
  simp
theorem within_ok {n m : Nat} {a b : List Pr} (ha : Rg n a) (hb : Rg m b) (hn : n ≤ 100) (hm : m ≤ 100) : ∃ t : Bool, ev2 F_is_within (ra a) (ra b) = some (.bool t) ∧ (t = true ↔ ∀ x, Mem a x → Mem b x) := by
  obtain ⟨c, h1, h2, h3⟩ := both_ok ha hb hn hm
  refine ⟨decide (rt c = rt a), ?_, ?_⟩
  · unfold F_is_within
    rw [q_ev2]
    unfold B_is_within
    have := eq_dat (rt c) (rt a)
    have e : dEq (ra c) (ra a) = some (.bool (decide (rt c = rt a))) := this
    simp [h1, e]
  · rw [decide_eq_true_eq]
    constructor
    · intro e x hx
      have := rt_inj e
      subst this
      exact ((h3 x).mp hx).2
    · intro e
      rw [h2.can.ext ha.can fun x => by rw [h3]; exact ⟨fun z => z.1, fun z => ⟨z, e x z⟩⟩]
/-- the rows of one name -/
def own (qs : List Need) (k : Str) : List Need := qs.filter fun q => decide (q.name = k)
theorem own_mem {qs : List Need} {k : Str} {q : Need} : q ∈ own qs k ↔ q ∈ qs ∧ q.name = k := by
  unfold own
  rw [List.mem_filter, decide_eq_true_eq]
end G

set_option maxHeartbeats 1000000
/-! k07: how many places are near -/
namespace G
open PySem Dt Dm Dk Rn DtX
open L2 (atI ixN)
open PySem.W (Datum DatumOrd Tup T3 T4)
theorem can_gapE {hi : Int} : ∀ {ps : List Pr} {lo : Int}, Can lo hi ps → ∀ p ∈ ps, ¬Mem ps (p.2 + 1)
  | p :: r, lo, h, q, hq, hm => by
    obtain ⟨h1, h2, h3, h4⟩ := h
    rw [mem_cons] at hm
    rcases List.mem_cons.mp hq with rfl | hq
    · rcases hm with hm | hm
      · omega
      · have := (h4.low hm).1
        omega
    · have k := can_gap.can_le h4 q hq
      have := (h4.low ⟨q, hq, Int.le_refl _, k⟩).1
      rcases hm with hm | hm
      · omega
      · exact can_gapE h4 q hq hm
theorem end_in {hi : Int} {ps : List Pr} {lo x : Int} (h : Can lo hi ps) (h1 : Mem ps x) (h2 : ¬Mem ps (x + 1)) : x ∈ ps.map (·.2) := by
  obtain ⟨q, hq, q1, q2⟩ := h1
  by_cases e : q.2 = x
  · exact e ▸ List.mem_map_of_mem hq
  · exact absurd ⟨q, hq, by omega, by omega⟩ h2
def six (p : Pr) : List Int := [p.1 + -1, p.1 + 0, p.1 + 1] ++ [p.2 + -1, p.2 + 0, p.2 + 1]
theorem nearA_mem (x : Int) : ∀ (Rs : List (List Pr)) (fs : List Int), x ∈ Rs.foldl (fun fs a => a.foldl nearf fs) fs ↔ x ∈ fs ∨ ∃ a ∈ Rs, ∃ p ∈ a, x ∈ six p
  | [], fs => by simp
  | a :: Rs, fs => by
    rw [List.foldl_cons, nearA_mem x Rs, near_mem, or_assoc]
    refine or_congr_right ⟨fun h => ?_, fun h => ?_⟩
    · rcases h with ⟨p, hp, h⟩ | ⟨b, hb, h⟩
      · exact ⟨a, List.mem_cons_self, p, hp, h⟩
      · exact ⟨b, List.mem_cons_of_mem _ hb, h⟩
    · obtain ⟨b, hb, p, hp, h⟩ := h
      rcases List.mem_cons.mp hb with rfl | hb
      · exact .inl ⟨p, hp, h⟩
      · exact .inr ⟨b, hb, p, hp, h⟩
theorem sum_len {Rs : List (List Pr)} (h : ∀ a ∈ Rs, a.length ≤ 3) : (Rs.map (·.length)).sum ≤ 3 * Rs.length := by
  induction Rs with
  | nil => simp
  | cons a r ih =>
    have := ih fun b hb => h b (List.mem_cons_of_mem _ hb)
    have := h a List.mem_cons_self
    rw [List.map_cons, List.sum_cons, List.length_cons]
    omega
def st3 (x : Int) : List Int := [x + -1, x + 0, x + 1]
theorem flat_len {α : Type} (f : α → List Int) (hf : ∀ a, (f a).length = 3) (l : List α) : (l.flatMap f).length = 3 * l.length := by
  induction l with
  | nil => rfl
  | cons a l ih => rw [List.flatMap_cons, List.length_append, ih, hf, List.length_cons]; omega
/-- what both have: few places near -/
theorem near_few {Rs : List (List Pr)} (hR : ∀ a ∈ Rs, Rg 3 a) (h3 : Rs.length ≤ 3) (hne : Rs ≠ []) {n : Nat} {c : List Pr} (hc : Rg n c) (hm : ∀ x, Mem c x ↔ (0 ≤ x ∧ x ≤ 999999) ∧ ∀ a ∈ Rs, Mem a x) : (nearU (Rs ++ [c])).length < 64 := by
  have hp : (nearU (Rs ++ [c])).Nodup := (uset_pair _).imp fun {a b} h e => by omega
  have hst : ∀ p ∈ c, p.1 ∈ Rs.flatten.map (·.1) := fun p hp => by
    have k1 := (hm p.1).mp ⟨p, hp, Int.le_refl _, can_gap.can_le hc.can p hp⟩
    have k2 := can_gap hc.can p hp
    rw [hm] at k2
    have : ∃ a ∈ Rs, ¬Mem a (p.1 - 1) := by
      by_cases z : 0 ≤ p.1 - 1
      · exact Classical.byContradiction fun hh => k2 ⟨⟨z, by omega⟩, fun a ha => Classical.byContradiction fun hb => hh ⟨a, ha, hb⟩⟩
      · cases Rs with
        | nil => exact absurd rfl hne
        | cons a r => exact ⟨a, List.mem_cons_self, fun hh => z ((hR a List.mem_cons_self).can.low hh).1⟩
    obtain ⟨a, ha, hn⟩ := this
    obtain ⟨q, hq, e⟩ := List.mem_map.mp (start_in (hR a ha).can (k1.2 a ha) hn)
    exact List.mem_map.mpr ⟨q, List.mem_flatten.mpr ⟨a, ha, hq⟩, e⟩
  have hen : ∀ p ∈ c, p.2 ∈ Rs.flatten.map (·.2) := fun p hp => by
    have k1 := (hm p.2).mp ⟨p, hp, can_gap.can_le hc.can p hp, Int.le_refl _⟩
    have k2 := can_gapE hc.can p hp
    rw [hm] at k2
    have : ∃ a ∈ Rs, ¬Mem a (p.2 + 1) := by
      by_cases z : p.2 + 1 ≤ 999999
      · exact Classical.byContradiction fun hh => k2 ⟨⟨by omega, z⟩, fun a ha => Classical.byContradiction fun hb => hh ⟨a, ha, hb⟩⟩
      · cases Rs with
        | nil => exact absurd rfl hne
        | cons a r => exact ⟨a, List.mem_cons_self, fun hh => z ((hR a List.mem_cons_self).can.low hh).2⟩
    obtain ⟨a, ha, hn⟩ := this
    obtain ⟨q, hq, e⟩ := List.mem_map.mp (end_in (hR a ha).can (k1.2 a ha) hn)
    exact List.mem_map.mpr ⟨q, List.mem_flatten.mpr ⟨a, ha, hq⟩, e⟩
  have hsub := nodup_sub (m := [0, 999999] ++ ((Rs.flatten.map (·.1)).flatMap st3 ++ (Rs.flatten.map (·.2)).flatMap st3)) hp fun x hx => by
    unfold nearU at hx
    rw [uset_mem, List.mem_filter] at hx
    have hx := hx.1
    unfold nearA at hx
    rw [nearA_mem] at hx
    rw [List.mem_append]
    rcases hx with hx | ⟨a, ha, p, hp, hx⟩
    · exact .inl hx
    · refine .inr ?_
      have h12 : p.1 ∈ Rs.flatten.map (·.1) ∧ p.2 ∈ Rs.flatten.map (·.2) := by
        rcases List.mem_append.mp ha with ha | ha
        · exact ⟨List.mem_map_of_mem (List.mem_flatten.mpr ⟨a, ha, hp⟩), List.mem_map_of_mem (List.mem_flatten.mpr ⟨a, ha, hp⟩)⟩
        · rw [List.mem_singleton.mp ha] at hp
          exact ⟨hst p hp, hen p hp⟩
      rw [List.mem_append]
      rcases List.mem_append.mp hx with hx | hx
      · exact .inl (List.mem_flatMap.mpr ⟨p.1, h12.1, hx⟩)
      · exact .inr (List.mem_flatMap.mpr ⟨p.2, h12.2, hx⟩)
  rw [List.length_append, List.length_append, flat_len st3 (fun _ => rfl), flat_len st3 (fun _ => rfl), List.length_map, List.length_map, List.length_flatten] at hsub
  have : (Rs.map List.length).sum ≤ 3 * Rs.length := sum_len (fun a ha => (hR a ha).len)
  simp only [List.length_cons, List.length_nil] at hsub
  omega
end G

set_option maxHeartbeats 1000000
/-! k07: the extras of a name, the places -/
namespace G
open PySem Dt Dm Dk Rn DtX
open L2 (atI ixN)
open PySem.W (Datum DatumOrd Tup T3 T4)
abbrev bd1 (ws : List (Str × Bool)) : List (D × D) := ws.map (enc2 (fun x : Str => (.str x : D)) fun b => (.bool b : D))
def KS (done : List Str) (ws : List (Str × Bool)) : Prop := (ws.map (·.1)).Nodup ∧ ∀ k, k ∈ ws.map (·.1) ↔ k ∈ done
theorem ks_put {done : List Str} {ws : List (Str × Bool)} (h : KS done ws) (e : Str) : KS (done ++ [e]) (tput ws e true) :=
  ⟨tput_nodup h.1 _ _, fun k => by rw [tput_keyin, h.2, List.mem_append, List.mem_singleton, or_comm]⟩
theorem ks_len {done : List Str} {ws : List (Str × Bool)} (h : KS done ws) : ws.length ≤ done.length := by
  have := nodup_sub h.1 fun k hk => (h.2 k).mp hk
  rw [List.length_map] at this
  exact this
def tn (q : Need) : T3 Str (Tup (Ed × Ed)) (Tup Str) := ⟨q.name, rt q.rng, ⟨q.exs⟩⟩
theorem nd_tn (q : Need) : nd q = Datum.toD (tn q) := rfl
theorem eq_nil_g {α : Type} [DecidableEq α] [Datum α] (xs : List α) (h : Datum.depth (List α) ≤ 60 := by decide) : dEq (.list (xs.map Datum.toD)) (.list []) = some (.bool (decide (xs = []))) := eq_dat xs [] h
theorem eq_nil_n (l : List Need) : dEq (.list (l.map nd)) (.list []) = some (.bool (decide (l = []))) := by
  have h := eq_nil_g (l.map tn)
  rw [List.map_map] at h
  refine Eq.trans h ?_
  congr 2
  rw [decide_eq_decide, List.map_eq_nil_iff]
section
variable (W X TO SO NA : D) (nm : Str) (sp : D) (wt : D)
theorem more_in (OW : D) (q : Need) (hq : q.exs.length ≤ 2) (v9 v10 v13 : Sl) (done : List Str) (ws : List (Str × Bool)) (h : KS done ws) (hl : done.length ≤ 100) : ∃ ws' v13', S__law_right_4_3_0 [.imm W, .imm X, .imm TO, .imm SO, .imm NA, .imm (.str nm), .imm sp, .imm wt, .imm OW, v9, v10, .own (.dct (bd1 ws)), .imm (nd q), v13]
    = .nx [.imm W, .imm X, .imm TO, .imm SO, .imm NA, .imm (.str nm), .imm sp, .imm wt, .imm OW, v9, v10, .own (.dct (bd1 ws')), .imm (nd q), v13'] ∧ KS (done ++ q.exs) ws' := by
  have x2 : dIx (nd q) (.int 2) = some (.tuple (q.exs.map sd)) := rfl
  generalize hQ : nd q = Q at *
  have hi : lSeq (eOp dIx (eV 12) (eC (.int 2))) [.imm W, .imm X, .imm TO, .imm SO, .imm NA, .imm (.str nm), .imm sp, .imm wt, .imm OW, v9, v10, .own (.dct (bd1 ws)), .imm Q, v13] = .ok (q.exs.map sd) [.imm W, .imm X, .imm TO, .imm SO, .imm NA, .imm (.str nm), .imm sp, .imm wt, .imm OW, v9, v10, .own (.dct (bd1 ws)), .imm Q, v13] := by simp [x2]
  simp only [S__law_right_4_3_0, q_sFor, hi]
  generalize hL : loopF _ _ _ _ = oo
  obtain ⟨s2, rfl, dn, ws', w13, e, rfl, a, _⟩ := loop_invE hL (fun rest ss => ∃ dn ws w13, dn ++ rest = done ++ q.exs ∧ ss = [.imm W, .imm X, .imm TO, .imm SO, .imm NA, .imm (.str nm), .imm sp, .imm wt, .imm OW, v9, v10, .own (.dct (bd1 ws)), .imm Q, w13] ∧ KS dn ws ∧ dn.length + rest.length ≤ 102) ⟨done, ws, _, rfl, rfl, h, by omega⟩ (fun x r ss hR => by
    obtain ⟨dn, ws, w13, e, rfl, a, hb⟩ := hR
    rw [List.length_cons] at hb
    have hp : dput (bd1 ws) (.str x) (.bool true) = bd1 (tput ws x true) := dput_enc (vd := fun b => (.bool b : D)) kenc_str ws x true
    have hle : (bd1 ws).length < 16777216 := by
      have := ks_len a
      rw [List.length_map]; omega
    generalize hT : bd1 ws = T at *
    generalize hT' : bd1 (tput ws x true) = T' at *
    refine ⟨_, [.imm W, .imm X, .imm TO, .imm SO, .imm NA, .imm (.str nm), .imm sp, .imm wt, .imm OW, v9, v10, .own (.dct T'), .imm Q, .imm (.str x)], rfl, .inl ?_, dn ++ [x], tput ws x true, _, by rw [← e]; simp, by rw [hT'], ks_put a x, by rw [List.length_append, List.length_singleton]; omega⟩
    simp [hp]
    exact hle)
  rw [List.append_nil] at e
  subst e
  exact ⟨_, _, rfl, a⟩
theorem more_run (l : List Need) (hl : l.length ≤ 30) (hq : ∀ q ∈ l, q.exs.length ≤ 2) (v9 v10 v12 v13 : Sl) : ∃ ws v12' v13', S__law_right_4_3 [.imm W, .imm X, .imm TO, .imm SO, .imm NA, .imm (.str nm), .imm sp, .imm wt, .imm (.list (l.map nd)), v9, v10, .own (.dct []), v12, v13]
    = .nx [.imm W, .imm X, .imm TO, .imm SO, .imm NA, .imm (.str nm), .imm sp, .imm wt, .imm (.list (l.map nd)), v9, v10, .own (.dct (bd1 ws)), v12', v13'] ∧ KS (l.flatMap (·.exs)) ws := by
  have hi : lSeq (eV 8) [.imm W, .imm X, .imm TO, .imm SO, .imm NA, .imm (.str nm), .imm sp, .imm wt, .imm (.list (l.map nd)), v9, v10, .own (.dct []), v12, v13] = .ok (l.map nd) [.imm W, .imm X, .imm TO, .imm SO, .imm NA, .imm (.str nm), .imm sp, .imm wt, .imm (.list (l.map nd)), v9, v10, .own (.dct []), v12, v13] := by simp
  simp only [S__law_right_4_3, q_sFor, hi]
  generalize hL : loopF _ _ _ _ = oo
  generalize (.list (l.map nd) : D) = OW at *
  obtain ⟨s2, rfl, dn, ws', w12, w13, e, rfl, a, _⟩ := loop_invE hL (fun rest ss => ∃ dn ws w12 w13, dn ++ rest.flatMap (·.exs) = l.flatMap (·.exs) ∧ ss = [.imm W, .imm X, .imm TO, .imm SO, .imm NA, .imm (.str nm), .imm sp, .imm wt, .imm OW, v9, v10, .own (.dct (bd1 ws)), w12, w13] ∧ KS dn ws ∧ dn.length + 2 * rest.length ≤ 60 ∧ ∀ q ∈ rest, q.exs.length ≤ 2) ⟨[], [], _, _, by simp, rfl, ⟨List.nodup_nil, fun k => by simp⟩, by simp; omega, hq⟩ (fun q r ss hR => by
    obtain ⟨dn, ws, w12, w13, e, rfl, a, hb, hr⟩ := hR
    rw [List.length_cons] at hb
    have h2 := hr q List.mem_cons_self
    obtain ⟨ws', u13, k1, k2⟩ := more_in W X TO SO NA nm sp wt OW q h2 v9 v10 w13 dn ws a (by omega)
    exact ⟨_, _, rfl, .inl k1, dn ++ q.exs, ws', _, _, by rw [← e]; simp, rfl, k2, by rw [List.length_append]; omega, fun z hz => hr z (List.mem_cons_of_mem _ hz)⟩)
  rw [List.flatMap_nil, List.append_nil] at e
  subst e
  exact ⟨_, _, _, rfl, a⟩
theorem near_run (l : List Need) (hn : ∀ q ∈ l, Rg 3 q.rng) (hl : l.length ≤ 3) (hne : l ≠ []) {n : Nat} {c : List Pr} (hc : Rg n c) (hn1 : n ≤ 100) (hm : ∀ x, Mem c x ↔ (0 ≤ x ∧ x ≤ 999999) ∧ ∀ q ∈ l, Mem q.rng x) (v9 v10 v11 v12 v13 : Sl) : ∃ v9' v10' v12', S__law_right_4_1 [.imm W, .imm X, .imm TO, .imm SO, .imm NA, .imm (.str nm), .imm (ra c), .imm wt, .imm (.list (l.map nd)), v9, v10, v11, v12, v13]
    = .nx [.imm W, .imm X, .imm TO, .imm SO, .imm NA, .imm (.str nm), .imm (ra c), .imm wt, .imm (.list (l.map nd)), v9', v10', v11, v12', v13] := by
  have hRs : ∀ a ∈ l.map (·.rng), Rg 3 a := fun a ha => by
    obtain ⟨q, hq, rfl⟩ := List.mem_map.mp ha
    exact hn q hq
  have few := near_few hRs (by rw [List.length_map]; exact hl) (by simpa using hne) hc (fun x => by rw [hm, List.forall_mem_map])
  have hsum : ((l.map (·.rng) ++ [c]).map (·.length)).sum ≤ 300 := by
    have : ((l.map (·.rng)).map List.length).sum ≤ 3 * (l.map (·.rng)).length := sum_len fun a ha => (hRs a ha).len
    have h2 := hc.len
    rw [List.length_map (as := l)] at this
    rw [List.map_append, List.sum_append]
    show ((l.map (·.rng)).map List.length).sum + (c.length + 0) ≤ 300
    omega
  obtain ⟨ps, e1, e2, e3⟩ := law_near_ok (l.map (·.rng) ++ [c]) (fun a ha => by
    rcases List.mem_append.mp ha with ha | ha
    · exact ⟨(hRs a ha).can, Nat.le_trans (hRs a ha).len (by decide)⟩
    · rw [List.mem_singleton.mp ha]; exact ⟨hc.can, Nat.le_trans hc.len hn1⟩) hsum few
  have hlw : l.length ≤ 16777216 := by omega
  generalize hO : (.list (l.map nd) : D) = OW
  have hio : itemsOf OW = some (l.map nd) := by rw [← hO]; rfl
  have hadd : dAdd (.list (l.map fun q => ra q.rng)) (.list [ra c]) = some (.list ((l.map (·.rng) ++ [c]).map ra)) := by
    rw [q_addl, q_fits, if_pos (by simp; omega), List.map_append, List.map_map]
    rfl
  have hi : lSeq (eCall F__law_near (aCons (eOp dAdd (eFz (nLc [12] (lSeq (eV 8)) (gN 12) bYes (eOp dIx (eV 12) (eC (.int 1))))) (eFz (nLst (lCons (eV 6) lNil)))) aNil)) [.imm W, .imm X, .imm TO, .imm SO, .imm NA, .imm (.str nm), .imm (ra c), .imm wt, .imm OW, v9, v10, v11, v12, v13] = .ok (ps.map fun x => (.int x : D)) [.imm W, .imm X, .imm TO, .imm SO, .imm NA, .imm (.str nm), .imm (ra c), .imm wt, .imm OW, v9, v10, v11, keepS v12, v13] := by
    simp [-q_nLc]
    rw [nLc_pure nd (fun q => ra q.rng) l ?hs ?h ?hl]
    case hs => simp [hio]
    case h =>
      intro q hq
      have : dIx (nd q) (.int 1) = some (ra q.rng) := rfl
      unfold turnF
      simp [this]
    case hl => rw [q_size]; exact hlw
    simp [-List.map_append, hadd, e1]
  simp only [S__law_right_4_1, q_sFor, hi]
  generalize hL : loopF _ _ _ _ = oo
  obtain ⟨s2, rfl, ⟨w9, w10, w12, rfl⟩, _⟩ := loop_invE hL (fun rest ss => (∃ w9 w10 w12, ss = [.imm W, .imm X, .imm TO, .imm SO, .imm NA, .imm (.str nm), .imm (ra c), .imm wt, .imm OW, w9, w10, v11, w12, v13]) ∧ ∀ x ∈ rest, 0 ≤ x ∧ x ≤ 999999) ⟨⟨_, _, _, rfl⟩, e2⟩ (fun x r ss hR => by
    obtain ⟨⟨w9, w10, w12, rfl⟩, hx⟩ := hR
    have hx0 := hx x List.mem_cons_self
    have k0 : S__law_right_4_1_0 [.imm W, .imm X, .imm TO, .imm SO, .imm NA, .imm (.str nm), .imm (ra c), .imm wt, .imm OW, .imm (.int x), w10, v11, w12, v13] = .nx [.imm W, .imm X, .imm TO, .imm SO, .imm NA, .imm (.str nm), .imm (ra c), .imm wt, .imm OW, .imm (.int x), .imm (.list ((l.filter fun q => !decide (Mem q.rng x)).map nd)), v11, keepS w12, v13] := by
      simp [-q_nLc]
      rw [nLc_filt nd (fun q => !decide (Mem q.rng x)) nd l ?hs ?h ?hl]
      case hs => simp [hio]
      case h =>
        intro q hq
        have i1 : dIx (nd q) (.int 1) = some (ra q.rng) := rfl
        have i2 := law_in_eq (hn q hq) (by decide) x
        unfold turnF
        by_cases m : Mem q.rng x <;> simp [i1, i2, m]
      case hl => rw [q_size]; have := List.length_filter_le (fun q : Need => !decide (Mem q.rng x)) l; omega
      simp
    have k1 : S__law_right_4_1_1 [.imm W, .imm X, .imm TO, .imm SO, .imm NA, .imm (.str nm), .imm (ra c), .imm wt, .imm OW, .imm (.int x), .imm (.list ((l.filter fun q => !decide (Mem q.rng x)).map nd)), v11, keepS w12, v13] = .nx [.imm W, .imm X, .imm TO, .imm SO, .imm NA, .imm (.str nm), .imm (ra c), .imm wt, .imm OW, .imm (.int x), .imm (.list ((l.filter fun q => !decide (Mem q.rng x)).map nd)), v11, keepS w12, v13] := by
      have i2 := law_in_eq hc (by omega) x
      have i3 := eq_nil_n (l.filter fun q => !decide (Mem q.rng x))
      have e : decide (Mem c x) = decide ((l.filter fun q => !decide (Mem q.rng x)) = []) := by
        rw [decide_eq_decide, hm, List.filter_eq_nil_iff]
        simp [hx0]
      have i4 := ne_bool (decide (Mem c x)) (decide ((l.filter fun q => !decide (Mem q.rng x)) = []))
      rw [decide_eq_true e] at i4
      simp [-List.filter_eq_nil_iff, i2, i3, i4]
    refine ⟨[.imm W, .imm X, .imm TO, .imm SO, .imm NA, .imm (.str nm), .imm (ra c), .imm wt, .imm OW, .imm (.int x), w10, v11, w12, v13], [.imm W, .imm X, .imm TO, .imm SO, .imm NA, .imm (.str nm), .imm (ra c), .imm wt, .imm OW, .imm (.int x), .imm (.list ((l.filter fun q => !decide (Mem q.rng x)).map nd)), v11, keepS w12, v13], rfl, .inl ?_, ⟨_, _, _, rfl⟩, fun y hy => hx y (List.mem_cons_of_mem _ hy)⟩
    unfold L__law_right_4_1
    rw [seq_nx k0, k1])
  exact ⟨_, _, _, rfl⟩
end
end G

set_option maxHeartbeats 1000000
/-! k07: _law_right -/
namespace G
open PySem Dt Dm Dk Rn DtX
open L2 (atI ixN)
open PySem.W (Datum DatumOrd Tup T3 T4)
theorem law_right_ok {w : Ware} (h : AskW w) (es : List Str) (h3 : ∀ k, (own (asked w es) k).length ≤ 3) : ev2 F__law_right (wd w) (.tuple (es.map sd)) = some (.bool true) := by
  obtain ⟨rs, a1, A⟩ := asks_ok h es
  have a2 := law_asked_ok h es
  obtain ⟨hb, hl⟩ := asked_nb h es
  unfold F__law_right
  rw [q_ev2]
  unfold B__law_right
  generalize asked w es = qs at *
  generalize wd w = W at *
  generalize (.tuple (es.map sd) : D) = X at *
  have hnd : (rs.map (·.name)).Nodup := ex_nodup A.inc
  have hrs : rs.length ≤ 26 := by
    have := nodup_sub hnd fun k hk => (A.ks k).mp hk
    rw [List.length_map, List.length_map] at this
    omega
  have hnames : rs.map (·.name) = usetX (qs.map (·.name)) := xpair_ext A.inc (usetX_pair _) fun k => by rw [A.ks, usetX_mem]
  have k0 : S__law_right_0 [.imm W, .imm X, .un, .un, .un, .un, .un, .un, .un, .un, .un, .un, .un, .un] = .nx [.imm W, .imm X, .imm (.tuple (rs.map nd)), .un, .un, .un, .un, .un, .un, .un, .un, .un, .un, .un] := by simp [a1]
  have k1 : S__law_right_1 [.imm W, .imm X, .imm (.tuple (rs.map nd)), .un, .un, .un, .un, .un, .un, .un, .un, .un, .un, .un] = .nx [.imm W, .imm X, .imm (.tuple (rs.map nd)), .imm (.list (qs.map nd)), .un, .un, .un, .un, .un, .un, .un, .un, .un, .un] := by simp [a2]
  have hss := nSSA_l (f := eFz (nLc [12] (lSeq (eV 3)) (gN 12) bYes (eOp dIx (eV 12) (eC (.int 0))))) (ss := [.imm W, .imm X, .imm (.tuple (rs.map nd)), .imm (.list (qs.map nd)), .un, .un, .un, .un, .un, .un, .un, .un, .un, .un]) (s1 := [.imm W, .imm X, .imm (.tuple (rs.map nd)), .imm (.list (qs.map nd)), .un, .un, .un, .un, .un, .un, .un, .un, .un, .un]) (ns := qs.map (·.name)) (by
    simp [-q_nLc]
    rw [nLc_pure nd (fun q => (.str q.name : D)) qs ?hs ?h ?hl]
    case hs => simp
    case h =>
      intro q hq
      have : dIx (nd q) (.int 0) = some (.str q.name) := rfl
      unfold turnF
      simp [this]
    case hl => rw [q_size]; omega
    simp) (by rw [List.length_map]; omega)
  have k2 : S__law_right_2 [.imm W, .imm X, .imm (.tuple (rs.map nd)), .imm (.list (qs.map nd)), .un, .un, .un, .un, .un, .un, .un, .un, .un, .un] = .nx [.imm W, .imm X, .imm (.tuple (rs.map nd)), .imm (.list (qs.map nd)), .imm (.list ((usetX (qs.map (·.name))).map sd)), .un, .un, .un, .un, .un, .un, .un, .un, .un] := by
    simp only [S__law_right_2, q_sAsg]
    simp [-q_nSSA, -q_nLc, hss]
  have k3 : S__law_right_3 [.imm W, .imm X, .imm (.tuple (rs.map nd)), .imm (.list (qs.map nd)), .imm (.list ((usetX (qs.map (·.name))).map sd)), .un, .un, .un, .un, .un, .un, .un, .un, .un] = .nx [.imm W, .imm X, .imm (.tuple (rs.map nd)), .imm (.list (qs.map nd)), .imm (.list ((usetX (qs.map (·.name))).map sd)), .un, .un, .un, .un, .un, .un, .un, .un, .un] := by
    have i1 : dIs "tuple" (.tuple (rs.map nd)) = some (.bool true) := rfl
    have hn : nLc [12] (lSeq (eV 2)) (gN 12) bYes (eOp dIx (eV 12) (eC (.int 0))) [.imm W, .imm X, .imm (.tuple (rs.map nd)), .imm (.list (qs.map nd)), .imm (.list ((usetX (qs.map (·.name))).map sd)), .un, .un, .un, .un, .un, .un, .un, .un, .un] = .ok (.lst (rs.map fun r => .str r.name)) [.imm W, .imm X, .imm (.tuple (rs.map nd)), .imm (.list (qs.map nd)), .imm (.list ((usetX (qs.map (·.name))).map sd)), .un, .un, .un, .un, .un, .un, .un, .un, .un] := by
      rw [nLc_pure nd (fun q => (.str q.name : D)) rs ?hs ?h ?hl]
      case hs => simp
      case h =>
        intro q hq
        have : dIx (nd q) (.int 0) = some (.str q.name) := rfl
        unfold turnF
        simp [this]
      case hl => rw [q_size]; omega
      simp
    have e : (rs.map fun r => (.str r.name : D)) = (usetX (qs.map (·.name))).map sd := by rw [← hnames, List.map_map]; rfl
    rw [e] at hn
    have i2 : dNe (.list ((usetX (qs.map (·.name))).map sd)) (.list ((usetX (qs.map (·.name))).map sd)) = some (.bool false) := (ne_dat (usetX (qs.map (·.name))) (usetX (qs.map (·.name)))).trans (by simp)
    generalize (usetX (qs.map (·.name))).map sd = U at *
    simp [-q_nLc, i1, hn, i2]
  generalize (.list ((usetX (qs.map (·.name))).map sd) : D) = NA at *
  generalize hTO : (.tuple (rs.map nd) : D) = TO at *
  generalize hSO : (.list (qs.map nd) : D) = SO at *
  have hto : itemsOf TO = some (rs.map nd) := by rw [← hTO]; rfl
  have hso : itemsOf SO = some (qs.map nd) := by rw [← hSO]; rfl
  obtain ⟨v5, v6, v7, v8, v9, v10, v11, v12, v13, k4⟩ : ∃ v5 v6 v7 v8 v9 v10 v11 v12 v13, S__law_right_4 [.imm W, .imm X, .imm TO, .imm SO, .imm NA, .un, .un, .un, .un, .un, .un, .un, .un, .un] = .nx [.imm W, .imm X, .imm TO, .imm SO, .imm NA, v5, v6, v7, v8, v9, v10, v11, v12, v13] := by
    have hi : lSeq (eV 2) [.imm W, .imm X, .imm TO, .imm SO, .imm NA, .un, .un, .un, .un, .un, .un, .un, .un, .un] = .ok (rs.map nd) [.imm W, .imm X, .imm TO, .imm SO, .imm NA, .un, .un, .un, .un, .un, .un, .un, .un, .un] := by simp [hto]
    simp only [S__law_right_4, q_sFor, hi]
    generalize hL : loopF _ _ _ _ = oo
    obtain ⟨ss, rfl, ⟨v5, v6, v7, v8, v9, v10, v11, v12, v13, rfl⟩, _⟩ := loop_invE hL (fun rest ss => (∃ v5 v6 v7 v8 v9 v10 v11 v12 v13, ss = [.imm W, .imm X, .imm TO, .imm SO, .imm NA, v5, v6, v7, v8, v9, v10, v11, v12, v13]) ∧ ∀ r ∈ rest, r ∈ rs) ⟨⟨_, _, _, _, _, _, _, _, _, rfl⟩, fun r hr => hr⟩ (fun r rest ss hR => by
      obtain ⟨⟨v5, v6, v7, v8, v9, v10, v11, v12, v13, rfl⟩, hin⟩ := hR
      have hr := A.row r (hin r List.mem_cons_self)
      have hown : ∀ q ∈ own qs r.name, NB q := fun q hq => hb q (own_mem.mp hq).1
      have hol := h3 r.name
      have hone : own qs r.name ≠ [] := by
        obtain ⟨q, hq, e⟩ := List.mem_map.mp ((A.ks r.name).mp (List.mem_map_of_mem (hin r List.mem_cons_self)))
        exact List.ne_nil_of_mem (own_mem.mpr ⟨hq, e⟩)
      have hm : ∀ x, Mem r.rng x ↔ (0 ≤ x ∧ x ≤ 999999) ∧ ∀ q ∈ own qs r.name, Mem q.rng x := fun x => by
        rw [hr.mem]
        exact and_congr_right fun _ => ⟨fun k q hq => k q (own_mem.mp hq).1 (own_mem.mp hq).2, fun k q hq e => k q (own_mem.mpr ⟨hq, e⟩)⟩
      have hfil : (qs.filter fun q => decide (q.name = r.name)) = own qs r.name := rfl
      have j0 : S__law_right_4_0 [.imm W, .imm X, .imm TO, .imm SO, .imm NA, .imm (.str r.name), .imm (ra r.rng), .imm (.tuple (r.exs.map sd)), v8, v9, v10, v11, v12, v13] = .nx [.imm W, .imm X, .imm TO, .imm SO, .imm NA, .imm (.str r.name), .imm (ra r.rng), .imm (.tuple (r.exs.map sd)), .imm (.list ((own qs r.name).map nd)), v9, v10, v11, keepS v12, v13] := by
        simp [-q_nLc]
        rw [nLc_filt nd (fun q => decide (q.name = r.name)) nd qs ?hs ?h ?hl]
        case hs => simp [hso]
        case h =>
          intro q hq
          have i1 : dIx (nd q) (.int 0) = some (.str q.name) := rfl
          have i2 := eq_str q.name r.name
          unfold turnF
          by_cases c : q.name = r.name
          · rw [decide_eq_true c] at i2
            rw [c] at i1 i2
            simp [i1, i2, c]
          · rw [decide_eq_false c] at i2
            simp [i1, i2, c]
        case hl => rw [q_size]; have := List.length_filter_le (fun q : Need => decide (q.name = r.name)) qs; omega
        rw [hfil]
        simp
      obtain ⟨u9, u10, u12, j1⟩ := near_run W X TO SO NA r.name (.tuple (r.exs.map sd)) (own qs r.name) (fun q hq => (hown q hq).rg) hol hone hr.rg (by omega) hm v9 v10 v11 (keepS v12) v13
      obtain ⟨ws, x12, x13, j3, hks⟩ := more_run W X TO SO NA r.name (ra r.rng) (.tuple (r.exs.map sd)) (own qs r.name) (by omega) (fun q hq => ex_two (hown q hq).ex (hown q hq).sub) u9 u10 u12 v13
      generalize hOW : (.list ((own qs r.name).map nd) : D) = OW at *
      have j2 : S__law_right_4_2 [.imm W, .imm X, .imm TO, .imm SO, .imm NA, .imm (.str r.name), .imm (ra r.rng), .imm (.tuple (r.exs.map sd)), .imm OW, u9, u10, v11, u12, v13] = .nx [.imm W, .imm X, .imm TO, .imm SO, .imm NA, .imm (.str r.name), .imm (ra r.rng), .imm (.tuple (r.exs.map sd)), .imm OW, u9, u10, .own (.dct []), u12, v13] := by simp
      have j4 : S__law_right_4_4 [.imm W, .imm X, .imm TO, .imm SO, .imm NA, .imm (.str r.name), .imm (ra r.rng), .imm (.tuple (r.exs.map sd)), .imm OW, u9, u10, .own (.dct (bd1 ws)), x12, x13] = .nx [.imm W, .imm X, .imm TO, .imm SO, .imm NA, .imm (.str r.name), .imm (ra r.rng), .imm (.tuple (r.exs.map sd)), .imm OW, u9, u10, .imm (.dict (bd1 ws)), x12, x13] := by
        have i1 : gSorted [.dict (bd1 ws)] = some (.lst ((srt (ws.map (·.1))).map sd)) := sorted_str (fun b => (.bool b : D)) ws
        have e : srt (ws.map (·.1)) = r.exs := xpair_ext (srt_strict hks.1) hr.ex fun k => by
          rw [(srt_perm _).mem_iff, hks.2, hr.exm, List.mem_flatMap]
          exact ⟨fun ⟨q, hq, m⟩ => ⟨q, (own_mem.mp hq).1, (own_mem.mp hq).2, m⟩, fun ⟨q, hq, n, m⟩ => ⟨q, own_mem.mpr ⟨hq, n⟩, m⟩⟩
        rw [e] at i1
        have i2 : dNe (.tuple (r.exs.map sd)) (.tuple (r.exs.map sd)) = some (.bool false) := (ne_dat (⟨r.exs⟩ : Tup Str) ⟨r.exs⟩).trans (by simp)
        generalize bd1 ws = T at *
        generalize r.exs.map sd = U at *
        simp [i1, i2]
      refine ⟨[.imm W, .imm X, .imm TO, .imm SO, .imm NA, .imm (.str r.name), .imm (ra r.rng), .imm (.tuple (r.exs.map sd)), v8, v9, v10, v11, v12, v13], [.imm W, .imm X, .imm TO, .imm SO, .imm NA, .imm (.str r.name), .imm (ra r.rng), .imm (.tuple (r.exs.map sd)), .imm OW, u9, u10, .imm (.dict (bd1 ws)), x12, x13], by simp [nd], .inl ?_, ⟨_, _, _, _, _, _, _, _, _, rfl⟩, fun z hz => hin z (List.mem_cons_of_mem _ hz)⟩
      unfold L__law_right_4
      rw [seq_nx j0, seq_nx j1, seq_nx j2, seq_nx j3, j4])
    exact ⟨_, _, _, _, _, _, _, _, _, rfl⟩
  show fin 2 ((sSeq S__law_right_0 _) [.imm W, .imm X, .un, .un, .un, .un, .un, .un, .un, .un, .un, .un, .un, .un]) = _
  rw [seq_nx k0, seq_nx k1, seq_nx k2, seq_nx k3, seq_nx k4]
  simp
end G

set_option maxHeartbeats 1000000
/-! k07: the law -/
namespace G
open PySem Dt Dm Dk Rn DtX
open L2 (atI ixN)
open PySem.W (Datum DatumOrd Tup T3 T4)
theorem nb_of {names : List Str} {q : Need} (h : NeedOk names q) : NB q := by
  have hl : ltS fastS slimS = true := by decide +kernel
  refine ⟨h.rg, ?_, fun e he => by simpa using h.ex.subset he⟩
  exact (List.pairwise_cons.mpr ⟨fun b hb => by rw [List.mem_singleton.mp hb]; exact hl, List.pairwise_singleton _ _⟩ : [fastS, slimS].Pairwise fun a b => ltS a b = true).sublist h.ex
theorem askW_of {name : Str} {ed : Ed} {names : List Str} {w : Ware} (h : WareOk name ed names w) : AskW w := by
  refine ⟨fun q hq => nb_of (h.needs.all q hq), Nat.le_trans h.few (by decide), ?_, fun p hp => ⟨Nat.le_trans (h.ex.all p hp).2 (by decide), fun q hq => nb_of ((h.ex.all p hp).1.all q hq)⟩⟩
  have := h.ex.sub.length_le
  rw [List.length_map] at this
  exact Nat.le_trans this (by decide)
theorem own_few {name : Str} {ed : Ed} {names : List Str} {w : Ware} (h : WareOk name ed names w) (es : List Str) (k : Str) : (own (asked w es) k).length ≤ 3 := by
  have one : ∀ {ns : List Str} {qs : List Need}, NeedsOk ns qs → (own qs k).length ≤ 1 := fun {ns qs} hq => by
    have hn : (qs.map (·.name)).Nodup := ex_nodup hq.inc
    have : (own qs k).map (·.name) = (qs.map (·.name)).filter fun x => decide (x = k) := by
      unfold own
      rw [List.filter_map]
      rfl
    have l := nodup_sub (m := [k]) (hn.filter fun x => decide (x = k)) fun x hx => by
      rw [List.mem_filter] at hx
      simpa using hx.2
    rw [← this, List.length_map] at l
    exact l
  have app : ∀ a b : List Need, own (a ++ b) k = own a k ++ own b k := fun a b => List.filter_append a b
  unfold asked askLs
  rw [List.flatten_cons, app, List.length_append]
  have h1 := one h.needs
  have hx := h.ex.sub.length_le
  rw [List.length_map] at hx
  have key : ∀ l : List (Str × List Need), (∀ p ∈ l, (own p.2 k).length ≤ 1) → (own (l.map (·.2)).flatten k).length ≤ l.length := by
    intro l
    induction l with
    | nil => intro _; simp [own]
    | cons p l ih =>
      intro hl
      have := ih fun z hz => hl z (List.mem_cons_of_mem _ hz)
      have := hl p List.mem_cons_self
      rw [List.map_cons, List.flatten_cons, app, List.length_append, List.length_cons]
      omega
  have h2 := key (w.extras.filter fun p => decide (p.1 ∈ es)) fun p hp => one (h.ex.all p (List.mem_filter.mp hp).1).1
  have h3 := List.length_filter_le (fun p : Str × List Need => decide (p.1 ∈ es)) w.extras
  have h4 : [fastS, slimS].length = 2 := rfl
  omega
/-- without extras: the own needs -/
theorem asks_none {name : Str} {ed : Ed} {names : List Str} {w : Ware} (h : WareOk name ed names w) {rs : List Need} (A : Asked (asked w []) rs) : rs = w.needs := by
  have e : asked w [] = w.needs := by
    unfold asked askLs
    simp
  rw [e] at A
  have hnm : rs.map (·.name) = w.needs.map (·.name) := xpair_ext A.inc h.needs.inc A.ks
  have hn : (w.needs.map (·.name)).Nodup := ex_nodup h.needs.inc
  have hrow : ∀ r ∈ rs, ∀ q ∈ w.needs, q.name = r.name → r = q := fun r hr q hq hqr => by
    have a := A.row r hr
    have hq1 := nb_of (h.needs.all q hq)
    have uniq : ∀ z ∈ w.needs, z.name = r.name → z = q := fun z hz e => nodup_inj (fun z : Need => z.name) hn hz hq (by rw [e, hqr])
    have r1 : r.rng = q.rng := Can.ext a.rg.can hq1.rg.can fun x => by
      rw [a.mem]
      exact ⟨fun k => k.2 q hq hqr, fun k => ⟨hq1.rg.can.low k, fun z hz e => by rw [uniq z hz e]; exact k⟩⟩
    have r2 : r.exs = q.exs := xpair_ext a.ex hq1.ex fun x => by
      rw [a.exm]
      exact ⟨fun ⟨z, hz, e, m⟩ => by rw [← uniq z hz e]; exact m, fun m => ⟨q, hq, hqr, m⟩⟩
    cases r; cases q
    simp only at r1 r2 hqr
    rw [r1, r2, hqr]
  refine List.ext_getElem (by simpa using congrArg List.length hnm) fun i h1 h2 => ?_
  have e2 : (rs.map (·.name))[i]'(by simpa using h1) = (w.needs.map (·.name))[i]'(by simpa using h2) := by simp only [hnm]
  rw [List.getElem_map, List.getElem_map] at e2
  exact hrow _ (List.getElem_mem h1) _ (List.getElem_mem h2) e2.symm
end G

set_option maxHeartbeats 1000000
/-! k07: str of the ware; the law -/
namespace G
open PySem Dt Dm Dk Rn DtX
open L2 (atI ixN)
open PySem.W (Datum DatumOrd Tup T3 T4)
theorem sm_rev {t : Str} (h : Sm t) : Sm (revS t) ∧ (revS t).length = t.length := by
  have e : (revS t).cps.toList = t.cps.toList.reverse := by simp [revS]
  refine ⟨fun c hc => h c (by rw [e] at hc; exact List.mem_reverse.mp hc), ?_⟩
  rw [TL.len_tl, TL.len_tl]
  show (revS t).cps.toList.length = _
  rw [e, List.length_reverse]
theorem sm_lit (s : String) (h : ∀ c ∈ (Str.ofString s).cps.toList, c < 1000) : Sm (Str.ofString s) := h
theorem sh_path {name : Str} (h : Sm name) (hl : name.length ≤ 900) (s : Str) (hs : Sm s) (h2 : s.length ≤ 10) (m : Nat) : Sh 910 m (.str (name ++ s)) := sh_str (sm_app h hs) (by rw [len_app]; omega) m
theorem sh_stp {name t : Str} (h : Sm name) (hl : name.length ≤ 900) (ht : Sm t) (hl2 : t.length ≤ 910) : ∀ s ∈ [Step.put (pc name) (revS t), Step.join (pd name) [pa name, pb name], Step.drop (pb name)], Sh 5000 3 (stp s) := by
  have r := sm_rev ht
  have sa : Sm (Str.ofString "/a") := by unfold Sm; decide +kernel
  have sb : Sm (Str.ofString "/b") := by unfold Sm; decide +kernel
  have sc : Sm (Str.ofString "/c") := by unfold Sm; decide +kernel
  have s4 : Sm (Str.ofString "/d") := by unfold Sm; decide +kernel
  have w1 : Sm (Str.ofString "put") := by unfold Sm; decide +kernel
  have w2 : Sm (Str.ofString "join") := by unfold Sm; decide +kernel
  have w3 : Sm (Str.ofString "drop") := by unfold Sm; decide +kernel
  intro s hs
  simp only [List.mem_cons, List.not_mem_nil, or_false] at hs
  rcases hs with rfl | rfl | rfl
  · exact (sh_tup (ShA.cons (sh_str (W := 10) w1 (by decide) 2) (ShA.cons (sh_path h hl _ sc (by decide) 2) (ShA.cons (sh_str (W := 910) r.1 (by omega) 2) (shA_nil 2))))).mono (by decide) (by decide)
  · exact (sh_tup (ShA.cons (sh_str (W := 10) w2 (by decide) 2) (ShA.cons (sh_path h hl _ s4 (by decide) 2) (ShA.cons (sh_tup (ShA.cons (sh_path h hl _ sa (by decide) 1) (ShA.cons (sh_path h hl _ sb (by decide) 1) (shA_nil 1)))) (shA_nil 2))))).mono (by decide) (by decide)
  · exact (sh_tup (ShA.cons (sh_str (W := 10) w3 (by decide) 2) (ShA.cons (sh_path h hl _ sb (by decide) 2) (shA_nil 2)))).mono (by decide) (by decide)
theorem sh_ware {name : Str} {ed : Ed} {names : List Str} {w : Ware} (h : WareOk name ed names w) (he : EdOk ed) (hn : Sm name) (hl : name.length ≤ 900) (hs : ∀ x ∈ names, Sm x ∧ x.length ≤ 1000) : Sh 60000 8 (wd w) := by
  have hs' : ∀ x ∈ names.filter (fun x => !decide (x = name)), Sm x ∧ x.length ≤ 1000 := fun x hx => hs x (List.mem_filter.mp hx).1
  obtain ⟨t, t2, k, ht, ht2, hf, hst⟩ := h.fs
  have hsm : ∀ p ∈ w.files, Sm p.2 := h.tx hn
  have st : Sm t := hsm (pa name, t) (by rw [hf]; simp)
  have st2 : Sm t2 := hsm (pb name, t2) (by rw [hf]; simp)
  have sa : Sm (Str.ofString "/a") := by unfold Sm; decide +kernel
  have sb : Sm (Str.ofString "/b") := by unfold Sm; decide +kernel
  have e1 : Sh 900 7 (.str w.name) := by rw [h.nm]; exact sh_str hn hl 7
  have e2 : Sh 24 7 (Datum.toD w.ed) := by rw [h.ed]; exact (sh_ed he 0).mono (by decide) (by decide)
  have few := h.few
  have e3 : Sh 3603 7 (.tuple (w.needs.map nd)) := (sh_nds h.needs hs').mono (by omega) (by decide)
  have xl := h.ex.sub.length_le
  rw [List.length_map] at xl
  have xl : w.extras.length ≤ 2 := xl
  have e4 : Sh 2500 7 (.tuple (w.extras.map exd)) := (sh_tup (shA_map (W := 1208) (m := 6) exd w.extras fun p hp => by
    have hp2 := h.ex.all p hp
    have l1 := hp2.2
    exact (sh_tup (ShA.cons (sh_fs (h.ex.sub.subset (List.mem_map_of_mem hp)) 5) (ShA.cons (sh_nds hp2.1 hs') (shA_nil 5)))).mono (by omega) (by decide))).mono (by omega) (by decide)
  have e5 : Sh 4000 7 (.tuple (w.files.map fid)) := by
    rw [hf]
    exact (sh_tup (shA_map (W := 1900) (m := 2) fid [(pa name, t), (pb name, t2)] fun p hp => by
      simp only [List.mem_cons, List.not_mem_nil, or_false] at hp
      rcases hp with rfl | rfl
      · exact (sh_tup (ShA.cons (sh_path hn hl _ sa (by decide) 1) (ShA.cons (sh_str (W := 910) st (by omega) 1) (shA_nil 1)))).mono (by decide) (by decide)
      · exact (sh_tup (ShA.cons (sh_path hn hl _ sb (by decide) 1) (ShA.cons (sh_str (W := 910) st2 (by omega) 1) (shA_nil 1)))).mono (by decide) (by decide))).mono (by show (1900 + 1) * 2 ≤ 4000; decide) (by decide)
  have e6 : Sh 16000 7 (.tuple (w.steps.map stp)) := by
    have hsl : w.steps.length ≤ 3 := by
      rw [hst, List.length_take]
      exact Nat.min_le_right _ _
    exact (sh_tup (shA_map (W := 5000) (m := 3) stp w.steps fun s hs => by
      rw [hst] at hs
      exact sh_stp hn hl st (by omega) s (List.mem_of_mem_take hs))).mono (by omega) (by decide)
  exact (sh_tup (ShA.cons e1 (ShA.cons e2 (ShA.cons e3 (ShA.cons e4 (ShA.cons e5 (ShA.cons e6 (shA_nil 7)))))))).mono (by decide) (by decide)
theorem str_ware {name : Str} {ed : Ed} {names : List Str} {w : Ware} (h : WareOk name ed names w) (he : EdOk ed) (hn : Sm name) (hl : name.length ≤ 900) (hs : ∀ x ∈ names, Sm x ∧ x.length ≤ 1000) : ∃ t : Str, gStrT [wd w] = some (.str t) := by
  have k := sh_ware h he hn hl hs
  have l := PyData.shown_le 8 (by decide) (wd w) k.lf
  have kw := k.wt
  have e : wd w = .tuple [.str w.name, Datum.toD w.ed, .tuple (w.needs.map nd), .tuple (w.extras.map exd), .tuple (w.files.map fid), .tuple (w.steps.map stp)] := rfl
  rw [e] at k l kw ⊢
  exact ⟨_, if_pos ⟨⟨⟨k.pl, k.sh⟩, k.hd⟩, by show _ ≤ 16777216; omega, Nat.le_trans k.dp (by decide)⟩⟩
end G

set_option maxHeartbeats 1000000
/-! k07: the law -/
namespace G
open PySem Dt Dm Dk Rn DtX
open L2 (atI ixN)
open PySem.W (Datum DatumOrd Tup T3 T4)
theorem ne_tup_g {α : Type} [DecidableEq α] [Datum α] (xs : List α) (h : Datum.depth (Tup α) ≤ 60 := by decide) : dNe (.tuple (xs.map Datum.toD)) (.tuple (xs.map Datum.toD)) = some (.bool false) := (ne_dat (⟨xs⟩ : Tup α) ⟨xs⟩ h).trans (by simp)
theorem ne_nds (l : List Need) : dNe (.tuple (l.map nd)) (.tuple (l.map nd)) = some (.bool false) := by
  have h := ne_tup_g (l.map tn)
  rw [List.map_map] at h
  exact h
theorem filter_one {l : List Need} (h : (l.map (·.name)).Nodup) {r : Need} (hr : r ∈ l) : (l.filter fun z => decide (z.name = r.name)) = [r] := by
  induction l with
  | nil => cases hr
  | cons z l ih =>
    rw [List.map_cons, List.nodup_cons] at h
    rcases List.mem_cons.mp hr with rfl | hr
    · rw [List.filter_cons_of_pos (by simp)]
      congr 1
      rw [List.filter_eq_nil_iff]
      intro y hy hc
      exact h.1 (by rw [← of_decide_eq_true hc]; exact List.mem_map_of_mem hy)
    · rw [List.filter_cons_of_neg]
      · exact ih h.2 hr
      · intro hc
        exact h.1 (by rw [of_decide_eq_true hc]; exact List.mem_map_of_mem hr)
abbrev aS : Str := Str.ofString "a"
abbrev bcS : List Str := [Str.ofString "b", Str.ofString "c"]
theorem four_of (E : List Str) (h : E.length ≤ 2) : ∃ LL : List (List Str), ∀ (s1 : SS), s1[5]? = some (.imm (.tuple (E.map sd))) → lSeq (eFz (nLst (lCons (eTup lNil) (lCons (eV 5) (lCons (eSl (eV 5) oNone (oSome (eC (.int 1)))) (lCons (eSl (eV 5) (oSome (eC (.int 1))) oNone) lNil)))))) s1 = .ok (LL.map fun es => .tuple (es.map sd)) s1 := by
  match E, h with
  | [], _ =>
    exact ⟨[[], [], [], []], fun s1 h => by simp [h]; rfl⟩
  | [x], _ =>
    exact ⟨[[], [x], [x], []], fun s1 h => by simp [h]; rfl⟩
  | [x, y], _ =>
    exact ⟨[[], [x, y], [x], [y]], fun s1 h => by simp [h]; rfl⟩
def RL (S : D) (ss : SS) : Prop := ∃ v1 v2 v3 v4 v5 v6 v7 v8 v9 v10 v11 v12 v13 v14, ss = [.imm S, v1, v2, v3, v4, v5, v6, v7, v8, v9, v10, v11, v12, v13, v14]
theorem cell_ok (S : D) (x : Int) (ss : SS) (hR : RL S ss) : ∃ s1 s2, gN 1 (.int x) ss = some s1 ∧ (L_law_0 s1 = .nx s2 ∨ L_law_0 s1 = .ct s2) ∧ RL S s2 := by
  obtain ⟨v1, v2, v3, v4, v5, v6, v7, v8, v9, v10, v11, v12, v13, v14, rfl⟩ := hR
  obtain ⟨o, e0, d0⟩ := deck_spec x 0
  rw [show ((0 : Nat) : Int) = 0 from rfl] at e0
  have k0 : S_law_0_0 [.imm S, .imm (.int x), v2, v3, v4, v5, v6, v7, v8, v9, v10, v11, v12, v13, v14] = .nx [.imm S, .imm (.int x), .own o, v3, v4, v5, v6, v7, v8, v9, v10, v11, v12, v13, v14] := by simp [deck_is, e0]
  have sm1 : Sm aS := by unfold Sm; decide +kernel
  have sm2 : ∀ z ∈ bcS, Sm z ∧ z.length ≤ 1000 := fun z hz => by
    simp only [List.mem_cons, List.not_mem_nil, or_false] at hz
    rcases hz with rfl | rfl
    · exact ⟨by unfold Sm; decide +kernel, by decide⟩
    · exact ⟨by unfold Sm; decide +kernel, by decide⟩
  have hed : EdOk ⟨1, 0, 0⟩ := by unfold EdOk; simp only; omega
  obtain ⟨w, u1, e1, hw, d1⟩ := law_ware_ok d0 (by omega) aS (by decide) ⟨1, 0, 0⟩ hed bcS (by decide)
  obtain ⟨t0, ht⟩ := str_ware hw hed sm1 (by decide) sm2
  have aw := askW_of hw
  have few := own_few hw
  have i2 : dIx (wd w) (.int 2) = some (.tuple (w.needs.map nd)) := rfl
  have i3 : dIx (wd w) (.int 3) = some (.tuple (w.extras.map exd)) := rfl
  have hr := fun es => law_right_ok aw es (few es)
  have ha := fun es => asks_ok aw es
  have e1' : rv4 F__law_ware o (.str aS) (.tuple [.int 1, .int 0, .int 0]) (.list [.str (Str.ofString "b"), .str (Str.ofString "c")]) = some (wd w, u1) := e1
  have k1 : S_law_0_1 [.imm S, .imm (.int x), .own o, v3, v4, v5, v6, v7, v8, v9, v10, v11, v12, v13, v14] = .nx [.imm S, .imm (.int x), .own u1, .imm (wd w), v4, v5, v6, v7, v8, v9, v10, v11, v12, v13, v14] := by simp [q_r4, e1']
  have xl := hw.ex.sub.length_le
  rw [List.length_map] at xl
  have xl : w.extras.length ≤ 2 := xl
  generalize hWW : wd w = W at *
  have k2 : S_law_0_2 [.imm S, .imm (.int x), .own u1, .imm W, v4, v5, v6, v7, v8, v9, v10, v11, v12, v13, v14] = .nx [.imm S, .imm (.int x), .own u1, .imm W, .imm (.str t0), v5, v6, v7, v8, v9, v10, v11, v12, v13, v14] := by simp [ht]
  generalize hE : w.extras.map (·.1) = E
  have hEl : E.length ≤ 2 := by rw [← hE, List.length_map]; exact xl
  have k3 : S_law_0_3 [.imm S, .imm (.int x), .own u1, .imm W, .imm (.str t0), v5, v6, v7, v8, v9, v10, v11, v12, v13, v14] = .nx [.imm S, .imm (.int x), .own u1, .imm W, .imm (.str t0), .imm (.tuple (E.map sd)), v6, v7, v8, v9, v10, keepS v11, keepS v12, v13, v14] := by
    simp [-q_nLc]
    rw [nLc_pure exd (fun p => (.str p.1 : D)) w.extras ?hs ?h ?hl]
    case hs => simp [i3]
    case h =>
      intro p hp
      unfold turnF
      simp [exd]
    case hl => rw [q_size]; omega
    have e : (w.extras.map fun p => (.str p.1 : D)) = E.map sd := by rw [← hE, List.map_map]; rfl
    rw [e]
    simp
  obtain ⟨LL, hLL⟩ := four_of E hEl
  obtain ⟨w6, k4⟩ : ∃ w6, S_law_0_4 [.imm S, .imm (.int x), .own u1, .imm W, .imm (.str t0), .imm (.tuple (E.map sd)), v6, v7, v8, v9, v10, keepS v11, keepS v12, v13, v14] = .nx [.imm S, .imm (.int x), .own u1, .imm W, .imm (.str t0), .imm (.tuple (E.map sd)), w6, v7, v8, v9, v10, keepS v11, keepS v12, v13, v14] := by
    have hi := hLL [.imm S, .imm (.int x), .own u1, .imm W, .imm (.str t0), .imm (.tuple (E.map sd)), v6, v7, v8, v9, v10, keepS v11, keepS v12, v13, v14] rfl
    simp only [S_law_0_4, q_sFor, hi]
    generalize hL : loopF _ _ _ _ = oo
    obtain ⟨s2, rfl, w6, rfl⟩ := loop_invE hL (fun rest ss => ∃ w6, ss = [.imm S, .imm (.int x), .own u1, .imm W, .imm (.str t0), .imm (.tuple (E.map sd)), w6, v7, v8, v9, v10, keepS v11, keepS v12, v13, v14]) ⟨_, rfl⟩ (fun es r ss hR => by
      obtain ⟨w6, rfl⟩ := hR
      obtain ⟨rs, a1, _⟩ := ha es
      have q1 := hr es
      have q2 := ne_nds rs
      have q3 := ne_str t0 t0
      rw [decide_eq_true rfl] at q3
      refine ⟨_, [.imm S, .imm (.int x), .own u1, .imm W, .imm (.str t0), .imm (.tuple (E.map sd)), .imm (.tuple (es.map sd)), v7, v8, v9, v10, keepS v11, keepS v12, v13, v14], rfl, .inl ?_, _, rfl⟩
      generalize (.tuple (es.map sd) : D) = X at *
      simp [-q_nes, q1, a1, q2, ht, q3])
    exact ⟨w6, rfl⟩
  obtain ⟨rs0, a0, A0⟩ := ha []
  have hrs0 := asks_none hw A0
  rw [hrs0] at a0
  have a0 : ev2 F_asks W (.tuple []) = some (.tuple (w.needs.map nd)) := a0
  have k5 : S_law_0_5 [.imm S, .imm (.int x), .own u1, .imm W, .imm (.str t0), .imm (.tuple (E.map sd)), w6, v7, v8, v9, v10, keepS v11, keepS v12, v13, v14] = .nx [.imm S, .imm (.int x), .own u1, .imm W, .imm (.str t0), .imm (.tuple (E.map sd)), w6, v7, v8, v9, v10, keepS v11, keepS v12, v13, v14] := by
    have q := ne_nds w.needs
    simp [a0, i2, q]
  obtain ⟨rs, a1, A⟩ := ha E
  have hnd : (rs.map (·.name)).Nodup := ex_nodup A.inc
  obtain ⟨hb, hl⟩ := asked_nb aw E
  have hrl : rs.length ≤ 26 := by
    have := nodup_sub hnd fun k hk => (A.ks k).mp hk
    rw [List.length_map, List.length_map] at this
    omega
  have hsub : ∀ q ∈ w.needs, q ∈ asked w E := fun q hq => by
    unfold asked askLs
    rw [List.flatten_cons]
    exact List.mem_append_left _ hq
  obtain ⟨u7, u8, u9, u10, u13, u14, k6⟩ : ∃ u7 u8 u9 u10 u13 u14, S_law_0_6 [.imm S, .imm (.int x), .own u1, .imm W, .imm (.str t0), .imm (.tuple (E.map sd)), w6, v7, v8, v9, v10, keepS v11, keepS v12, v13, v14] = .nx [.imm S, .imm (.int x), .own u1, .imm W, .imm (.str t0), .imm (.tuple (E.map sd)), w6, u7, u8, u9, u10, keepS v11, keepS v12, u13, u14] := by
    have hi : lSeq (eCall F_asks (aCons (eV 3) (aCons (eTup lNil) aNil))) [.imm S, .imm (.int x), .own u1, .imm W, .imm (.str t0), .imm (.tuple (E.map sd)), w6, v7, v8, v9, v10, keepS v11, keepS v12, v13, v14] = .ok (w.needs.map nd) [.imm S, .imm (.int x), .own u1, .imm W, .imm (.str t0), .imm (.tuple (E.map sd)), w6, v7, v8, v9, v10, keepS v11, keepS v12, v13, v14] := by simp [a0]
    simp only [S_law_0_6, q_sFor, hi]
    generalize hL : loopF _ _ _ _ = oo
    obtain ⟨s2, rfl, ⟨u7, u8, u9, u10, u13, u14, rfl⟩, _⟩ := loop_invE hL (fun rest ss => (∃ u7 u8 u9 u10 u13 u14, ss = [.imm S, .imm (.int x), .own u1, .imm W, .imm (.str t0), .imm (.tuple (E.map sd)), w6, u7, u8, u9, u10, keepS v11, keepS v12, u13, u14]) ∧ ∀ q ∈ rest, q ∈ w.needs) ⟨⟨_, _, _, _, _, _, rfl⟩, fun q hq => hq⟩ (fun q rest ss hR => by
      obtain ⟨⟨u7, u8, u9, u10, u13, u14, rfl⟩, hin⟩ := hR
      have hq := hin q List.mem_cons_self
      have hqb := aw.n1 q hq
      obtain ⟨r, hr1, hr2⟩ := List.mem_map.mp ((A.ks q.name).mpr (List.mem_map_of_mem (hsub q hq)))
      have row := A.row r hr1
      have hf : (rs.filter fun z => decide (z.name = q.name)) = [r] := by rw [← hr2]; exact filter_one hnd hr1
      obtain ⟨tb, t1, t2⟩ := within_ok row.rg hqb.rg (by omega) (by omega)
      have htb : tb = true := t2.mpr fun y hy => ((row.mem y).mp hy).2 q (hsub q hq) hr2.symm
      rw [htb] at t1
      have hqe := ex_two hqb.ex hqb.sub
      have hall : (q.exs.filter fun e => !decide (e ∈ r.exs)) = [] := by
        rw [List.filter_eq_nil_iff]
        intro e he hc
        have : e ∈ r.exs := (row.exm e).mpr ⟨q, hsub q hq, hr2.symm, he⟩
        simp [this] at hc
      have j0 : S_law_0_6_0 [.imm S, .imm (.int x), .own u1, .imm W, .imm (.str t0), .imm (.tuple (E.map sd)), w6, .imm (.str q.name), .imm (ra q.rng), .imm (.tuple (q.exs.map sd)), u10, keepS v11, keepS v12, u13, u14] = .nx [.imm S, .imm (.int x), .own u1, .imm W, .imm (.str t0), .imm (.tuple (E.map sd)), w6, .imm (.str q.name), .imm (ra q.rng), .imm (.tuple (q.exs.map sd)), .imm (.list [nd r]), keepS v11, keepS v12, keepS u13, u14] := by
        simp [-q_nLc]
        rw [nLc_filt nd (fun z => decide (z.name = q.name)) nd rs ?hs ?h ?hl]
        case hs => simp [a1]
        case h =>
          intro z hz
          have i1 : dIx (nd z) (.int 0) = some (.str z.name) := rfl
          have i2 := eq_str z.name q.name
          unfold turnF
          by_cases c : z.name = q.name
          · rw [decide_eq_true c] at i2
            rw [c] at i1 i2
            simp [i1, i2, c]
          · rw [decide_eq_false c] at i2
            simp [i1, i2, c]
        case hl => rw [q_size]; have := List.length_filter_le (fun z : Need => decide (z.name = q.name)) rs; omega
        rw [hf]
        simp
      have x1 : dIx (nd r) (.int 1) = some (ra r.rng) := rfl
      have x2 : dIx (nd r) (.int 2) = some (.tuple (r.exs.map sd)) := rfl
      have xx : dIx (.list [nd r]) (.int 0) = some (nd r) := by simp [dIx, atI, ixN]
      have j1 : S_law_0_6_1 [.imm S, .imm (.int x), .own u1, .imm W, .imm (.str t0), .imm (.tuple (E.map sd)), w6, .imm (.str q.name), .imm (ra q.rng), .imm (.tuple (q.exs.map sd)), .imm (.list [nd r]), keepS v11, keepS v12, keepS u13, u14] = .nx [.imm S, .imm (.int x), .own u1, .imm W, .imm (.str t0), .imm (.tuple (E.map sd)), w6, .imm (.str q.name), .imm (ra q.rng), .imm (.tuple (q.exs.map sd)), .imm (.list [nd r]), keepS v11, keepS v12, keepS u13, u14] := by
        have n1 : dNe (.int 1) (.int 1) = some (.bool false) := ne_dat (1 : Int) 1
        simp [xx, x1, t1, n1]
      have j2 : S_law_0_6_2 [.imm S, .imm (.int x), .own u1, .imm W, .imm (.str t0), .imm (.tuple (E.map sd)), w6, .imm (.str q.name), .imm (ra q.rng), .imm (.tuple (q.exs.map sd)), .imm (.list [nd r]), keepS v11, keepS v12, keepS u13, u14] = .nx [.imm S, .imm (.int x), .own u1, .imm W, .imm (.str t0), .imm (.tuple (E.map sd)), w6, .imm (.str q.name), .imm (ra q.rng), .imm (.tuple (q.exs.map sd)), .imm (.list [nd r]), keepS v11, keepS v12, keepS u13, keepS u14] := by
        simp [-q_nLc]
        rw [nLc_filt sd (fun e => !decide (e ∈ r.exs)) sd q.exs ?hs ?h ?hl]
        case hs => simp
        case h =>
          intro e he
          have n1 : dNin (.str e) (.tuple (r.exs.map sd)) = some (.bool (!decide (e ∈ r.exs))) := nin_dat_t e r.exs
          unfold turnF
          by_cases c : e ∈ r.exs <;> simp [xx, x2, n1, c]
        case hl => rw [q_size]; have := List.length_filter_le (fun e : Str => !decide (e ∈ r.exs)) q.exs; omega
        have n0 : dNe (.list []) (.list []) = some (.bool false) := ne_dat ([] : List Int) []
        rw [hall]
        simp [n0]
      refine ⟨[.imm S, .imm (.int x), .own u1, .imm W, .imm (.str t0), .imm (.tuple (E.map sd)), w6, .imm (.str q.name), .imm (ra q.rng), .imm (.tuple (q.exs.map sd)), u10, keepS v11, keepS v12, u13, u14], [.imm S, .imm (.int x), .own u1, .imm W, .imm (.str t0), .imm (.tuple (E.map sd)), w6, .imm (.str q.name), .imm (ra q.rng), .imm (.tuple (q.exs.map sd)), .imm (.list [nd r]), keepS v11, keepS v12, keepS u13, keepS u14], by simp [nd], .inl ?_, ⟨_, _, _, _, _, _, rfl⟩, fun z hz => hin z (List.mem_cons_of_mem _ hz)⟩
      unfold L_law_0_6
      rw [seq_nx j0, seq_nx j1, j2])
    exact ⟨_, _, _, _, _, _, rfl⟩
  have hB : L_law_0 [.imm S, .imm (.int x), v2, v3, v4, v5, v6, v7, v8, v9, v10, v11, v12, v13, v14] = .nx [.imm S, .imm (.int x), .own u1, .imm W, .imm (.str t0), .imm (.tuple (E.map sd)), w6, u7, u8, u9, u10, keepS v11, keepS v12, u13, u14] := by
    unfold L_law_0
    rw [seq_nx k0, seq_nx k1, seq_nx k2, seq_nx k3, seq_nx k4, seq_nx k5, k6]
  exact ⟨_, _, rfl, .inl hB, ⟨_, _, _, _, _, _, _, _, _, _, _, _, _, _, rfl⟩⟩
theorem law_true (ns : List Int) (h : ns.length ≤ 63) : ∃ args, F_law [.imm (.list (ns.map .int))] = some (.imm (.bool true), args) :=
  law_end (N := 15) (k := 5) (B := B_law) (bd := L_law_0) rfl (RL (.list (ns.map .int))) ⟨_, _, _, _, _, _, _, _, _, _, _, _, _, _, rfl⟩ (fun x ss hR => cell_ok _ x ss hR) h
end G

open PySem PySem.W PyProof.Rows
set_option maxHeartbeats 0 in
theorem PySem.Challenge.cw_wareyard_k07_whole_what_wares_ask_holds : PySem.Challenge.rw_wareyard_k07_whole_what_wares_ask.Holds := by
  w_on; o_law; k_head; (case hw => w_witness2)
  k_fill
  refine Dt.walk_G (l := PySem.Challenge.rw_wareyard_k07_whole_what_wares_ask) (n := 63) (j := 7) (y := "script") (spw := fun w => Dt.spLaw ⟨_, w⟩) rfl (by decide) rfl ⟨rfl, by decide, by decide⟩ (fun w h Y => PySem.W.kIn_of Y) ?F (fun _ _ a ns hl o hS => Dt.law_in hl o hS)
  case F =>
    intro w mg fa h KX Gn hmg
    have T : G.Txt ⟨L2.KOf KX, w⟩ mg := by
      unfold L2.KOf
      refine' ⟨(Dt.no_mk KX Gn ?n_isinstance),
        (Dt.no_mk KX Gn ?n_len),
        (Dt.no_mk KX Gn ?n_list),
        (Dt.no_mk KX Gn ?n_max),
        (Dt.no_mk KX Gn ?n_min),
        (Dt.no_mk KX Gn ?n_range),
        (Dt.no_mk KX Gn ?n_set),
        (Dt.no_mk KX Gn ?n_sorted),
        (Dt.no_mk KX Gn ?n_str),
        (Dt.no_mk KX Gn ?n_tuple),
        (Dt.no_mk KX Gn ?n_zip),
        (Dt.at_mk KX Gn ?a_place_of ?l_place_of ?c_place_of ?k_place_of fun _ _ _ _ _ _ us hl => match us, hl with | [_], _ => rfl),
        (Dt.at_mk KX Gn ?a_edition_at ?l_edition_at ?c_edition_at ?k_edition_at fun _ _ _ _ _ _ us hl => match us, hl with | [_], _ => rfl),
        (Dt.at_mk KX Gn ?a_spans_of ?l_spans_of ?c_spans_of ?k_spans_of fun _ _ _ _ _ _ us hl => match us, hl with | [_], _ => rfl),
        (Dt.at_mk KX Gn ?a_joined ?l_joined ?c_joined ?k_joined fun _ _ _ _ _ _ us hl => match us, hl with | [_], _ => rfl),
        (Dt.at_mk KX Gn ?a_both ?l_both ?c_both ?k_both fun _ _ _ _ _ _ us hl => match us, hl with | [_, _], _ => rfl),
        (Dt.at_mk KX Gn ?a_is_within ?l_is_within ?c_is_within ?k_is_within fun _ _ _ _ _ _ us hl => match us, hl with | [_, _], _ => rfl),
        (Dt.at_mk KX Gn ?a_asks ?l_asks ?c_asks ?k_asks fun _ _ _ _ _ _ us hl => match us, hl with | [_, _], _ => rfl),
        (Dt.at_mk KX Gn ?a__law_deck ?l__law_deck ?c__law_deck ?k__law_deck fun _ _ _ _ _ _ us hl => match us, hl with | [_, _], _ => rfl),
        (Dt.at_mk KX Gn ?a__law_pick ?l__law_pick ?c__law_pick ?k__law_pick fun _ _ _ _ _ _ us hl => match us, hl with | [_, _], _ => rfl),
        (Dt.at_mk KX Gn ?a__law_edition ?l__law_edition ?c__law_edition ?k__law_edition fun _ _ _ _ _ _ us hl => match us, hl with | [_], _ => rfl),
        (Dt.at_mk KX Gn ?a__law_place ?l__law_place ?c__law_place ?k__law_place fun _ _ _ _ _ _ us hl => match us, hl with | [_], _ => rfl),
        (Dt.at_mk KX Gn ?a__law_at ?l__law_at ?c__law_at ?k__law_at fun _ _ _ _ _ _ us hl => match us, hl with | [_], _ => rfl),
        (Dt.at_mk KX Gn ?a__law_joined ?l__law_joined ?c__law_joined ?k__law_joined fun _ _ _ _ _ _ us hl => match us, hl with | [_], _ => rfl),
        (Dt.at_mk KX Gn ?a__law_span ?l__law_span ?c__law_span ?k__law_span fun _ _ _ _ _ _ us hl => match us, hl with | [_], _ => rfl),
        (Dt.at_mk KX Gn ?a__law_need ?l__law_need ?c__law_need ?k__law_need fun _ _ _ _ _ _ us hl => match us, hl with | [_, _, _], _ => rfl),
        (Dt.at_mk KX Gn ?a__law_needs ?l__law_needs ?c__law_needs ?k__law_needs fun _ _ _ _ _ _ us hl => match us, hl with | [_, _, _], _ => rfl),
        (Dt.at_mk KX Gn ?a__law_ware ?l__law_ware ?c__law_ware ?k__law_ware fun _ _ _ _ _ _ us hl => match us, hl with | [_, _, _, _], _ => rfl),
        (Dt.at_mk KX Gn ?a__law_in ?l__law_in ?c__law_in ?k__law_in fun _ _ _ _ _ _ us hl => match us, hl with | [_, _], _ => rfl),
        (Dt.at_mk KX Gn ?a__law_near ?l__law_near ?c__law_near ?k__law_near fun _ _ _ _ _ _ us hl => match us, hl with | [_], _ => rfl),
        (Dt.at_mk KX Gn ?a__law_asked ?l__law_asked ?c__law_asked ?k__law_asked fun _ _ _ _ _ _ us hl => match us, hl with | [_, _], _ => rfl),
        (Dt.at_mk KX Gn ?a__law_right ?l__law_right ?c__law_right ?k__law_right fun _ _ _ _ _ _ us hl => match us, hl with | [_, _], _ => rfl),
        (Dt.at_mk KX Gn ?a_law ?l_law ?c_law ?k_law fun _ _ _ _ _ _ us hl => match us, hl with | [_], _ => rfl)⟩
      (case n_isinstance => k_is)
      (case n_len => k_is)
      (case n_list => k_is)
      (case n_max => k_is)
      (case n_min => k_is)
      (case n_range => k_is)
      (case n_set => k_is)
      (case n_sorted => k_is)
      (case n_str => k_is)
      (case n_tuple => k_is)
      (case n_zip => k_is)
      (case a_place_of => k_is)
      (case l_place_of => k_is)
      (case c_place_of => k_is)
      (case k_place_of => k_is)
      (case a_edition_at => k_is)
      (case l_edition_at => k_is)
      (case c_edition_at => k_is)
      (case k_edition_at => k_is)
      (case a_spans_of => k_is)
      (case l_spans_of => k_is)
      (case c_spans_of => k_is)
      (case k_spans_of => k_is)
      (case a_joined => k_is)
      (case l_joined => k_is)
      (case c_joined => k_is)
      (case k_joined => k_is)
      (case a_both => k_is)
      (case l_both => k_is)
      (case c_both => k_is)
      (case k_both => k_is)
      (case a_is_within => k_is)
      (case l_is_within => k_is)
      (case c_is_within => k_is)
      (case k_is_within => k_is)
      (case a_asks => k_is)
      (case l_asks => k_is)
      (case c_asks => k_is)
      (case k_asks => k_is)
      (case a__law_deck => k_is)
      (case l__law_deck => k_is)
      (case c__law_deck => k_is)
      (case k__law_deck => k_is)
      (case a__law_pick => k_is)
      (case l__law_pick => k_is)
      (case c__law_pick => k_is)
      (case k__law_pick => k_is)
      (case a__law_edition => k_is)
      (case l__law_edition => k_is)
      (case c__law_edition => k_is)
      (case k__law_edition => k_is)
      (case a__law_place => k_is)
      (case l__law_place => k_is)
      (case c__law_place => k_is)
      (case k__law_place => k_is)
      (case a__law_at => k_is)
      (case l__law_at => k_is)
      (case c__law_at => k_is)
      (case k__law_at => k_is)
      (case a__law_joined => k_is)
      (case l__law_joined => k_is)
      (case c__law_joined => k_is)
      (case k__law_joined => k_is)
      (case a__law_span => k_is)
      (case l__law_span => k_is)
      (case c__law_span => k_is)
      (case k__law_span => k_is)
      (case a__law_need => k_is)
      (case l__law_need => k_is)
      (case c__law_need => k_is)
      (case k__law_need => k_is)
      (case a__law_needs => k_is)
      (case l__law_needs => k_is)
      (case c__law_needs => k_is)
      (case k__law_needs => k_is)
      (case a__law_ware => k_is)
      (case l__law_ware => k_is)
      (case c__law_ware => k_is)
      (case k__law_ware => k_is)
      (case a__law_in => k_is)
      (case l__law_in => k_is)
      (case c__law_in => k_is)
      (case k__law_in => k_is)
      (case a__law_near => k_is)
      (case l__law_near => k_is)
      (case c__law_near => k_is)
      (case k__law_near => k_is)
      (case a__law_asked => k_is)
      (case l__law_asked => k_is)
      (case c__law_asked => k_is)
      (case k__law_asked => k_is)
      (case a__law_right => k_is)
      (case l__law_right => k_is)
      (case c__law_right => k_is)
      (case k__law_right => k_is)
      (case a_law => k_is)
      (case l_law => k_is)
      (case c_law => k_is)
      (case k_law => k_is)
    obtain ⟨f, fd, Fl, m, bi⟩ := T.a_law
    have e := hmg.symm.trans m
    cases e
    refine ⟨fd, fun s u => ?_, fun base _ _ => (G.fn_law T Fl).imp (Dt.law_imp G.law_true)⟩
    exact Dt.bind1 bi s u
