import PyProof.Rows.All
import Wide.All
import OpenK.AllK
import Wide.FinOn
import HandS.ForMost
import HandS.Wide
import HandS.TupAny
import HandS.IsInst
import HandS.Style
import HandS.Deep
import HandS.TupMul
import KE.LtData
import KE.DataCmp
import KE.SortData
import KE.DataEq
import PyProof.StrOps2
import HandS.Text
import HandS.Codes
import HandS.SortInts
import HandS.RaiseMore
import HandS.FStr
import HandS.Zip
import HandS.TryOnly
import HandS.SetFor
import HandS.Strs
import KE.DatumOrd
import KE.DatumMore
import KE.DatumMoreOrd
import PySem.Challenge.RW_wareyard_k03_whole_ranges_reckoned
set_option Elab.async false
set_option linter.all false
set_option maxRecDepth 100000
/-! Dt0: data by value over the hand layer: what a value stands for (Rep), a frame's slots (FR), expressions, statements, calls as plain functions. -/
namespace Dt
open PySem PySem.Spec L2
open PyProof.Rows hiding St

abbrev D := PyData
abbrev Fg := PySem.W.Frag

/-- what stays: tuples and what is locked -/
structure Kp (H H' : Hp) : Prop where
  tup : ∀ a xs, H a = some (.tup xs) → H' a = some (.tup xs)
  frz : ∀ a o u, H a = some (.frz o u) → H' a = some (.frz o u)
theorem Kp.refl (H : Hp) : Kp H H := ⟨fun _ _ h => h, fun _ _ _ h => h⟩
theorem Kp.trans {H H1 H2 : Hp} (a : Kp H H1) (b : Kp H1 H2) : Kp H H2 := ⟨fun x o h => b.tup _ _ (a.tup _ _ h), fun x o u h => b.frz _ _ _ (a.frz _ _ _ h)⟩
theorem Kp.same {H H' : Hp} (h : Same H H') : Kp H H' := ⟨fun _ _ e => h _ _ e, fun _ _ _ e => h _ _ e⟩
theorem same_new {H : Hp} {p : Addr} {o : HO} (h : H p = none) : Same H (upd H p o) := fun b x e => by
  rw [upd_ne (ne_of_none e h)]
  exact e
/-- what may be changed: no tuple, nothing locked -/
def Loose (o : HO) : Prop := (∀ xs, o ≠ .tup xs) ∧ ∀ b u, o ≠ .frz b u
theorem loose_lst {xs : List V} : Loose (.lst xs) := ⟨fun _ h => (nomatch h), fun _ _ h => (nomatch h)⟩
theorem loose_dK {xs : List (Key × V)} : Loose (.dK xs) := ⟨fun _ h => (nomatch h), fun _ _ h => (nomatch h)⟩
theorem loose_dT {xs : List (List Key × V)} : Loose (.dT xs) := ⟨fun _ h => (nomatch h), fun _ _ h => (nomatch h)⟩
theorem Kp.upd {H : Hp} {p : Addr} {o u : HO} (h : H p = some o) (l : Loose o) : Kp H (upd H p u) := ⟨fun a xs e => by
    rw [upd_ne (ne_of e h fun z => l.1 _ z.symm)]; exact e, fun a b x e => by
    rw [upd_ne (ne_of e h fun z => l.2 _ _ z.symm)]; exact e⟩

def keyD : Key → D
  | .inl i => .int i
  | .inr x => .str x

/-- a list that is locked, or the module's own -/
def LstF (K : Fg) (H : Hp) (a : Addr) (xs : List V) : Prop :=
  (∃ o, H a = some (.frz o (.lst xs))) ∨
    ∃ (o : Obj) (its : Array Value) (n : Nat), K.lookup a = some o ∧ o.cls = .type "list" ∧ o.dict = none ∧ o.data = .seq its n ∧ its.size ≤ sizeLine ∧ Vals xs its.toList
theorem LstF.sq {K : Fg} {H : Hp} {a : Addr} {xs : List V} (h : LstF K H a xs) : SqL K H a xs := by
  rcases h with ⟨o, h⟩ | h
  · exact .inl (.inr ⟨o, h⟩)
  · exact .inr h
theorem LstF.kp {K : Fg} {H H' : Hp} {a : Addr} {xs : List V} (k : Kp H H') (h : LstF K H a xs) : LstF K H' a xs := by
  rcases h with ⟨o, h⟩ | h
  · exact .inl ⟨o, k.frz _ _ _ h⟩
  · exact .inr h
theorem sqT_kp {K : Fg} {H H' : Hp} {a : Addr} {xs : List V} (k : Kp H H') (h : SqT K H a xs) : SqT K H' a xs := by
  rcases h with (h | ⟨o, h⟩) | h
  · exact .inl (.inl (k.tup _ _ h))
  · exact .inl (.inr ⟨o, k.frz _ _ _ h⟩)
  · exact .inr h

mutual
/-- the value stands for the data; nothing of it is changed any more -/
inductive Rep (K : Fg) (H : Hp) : V → D → Prop
  | non : Rep K H .non .none
  | bl (b : Bool) : Rep K H (.bl b) (.bool b)
  | int (i : Int) : Rep K H (.int i) (.int i)
  | str (x : Str) : Rep K H (.str x) (.str x)
  | lst {a : Addr} {xs : List V} {ds : List D} : LstF K H a xs → RepAll K H xs ds → Rep K H (.ref a) (.list ds)
  | tup {a : Addr} {xs : List V} {ds : List D} : SqT K H a xs → RepAll K H xs ds → Rep K H (.ref a) (.tuple ds)
  | dK {a : Addr} {o : Obj} {kvs : List (Key × V)} {ds : List D} : H a = some (.frz o (.dK kvs)) → RepAll K H (kvs.map (·.2)) ds → Rep K H (.ref a) (.dict ((kvs.map fun p => keyD p.1).zip ds))
  | dT {a : Addr} {o : Obj} {kvs : List (List Key × V)} {ds : List D} : H a = some (.frz o (.dT kvs)) → RepAll K H (kvs.map (·.2)) ds → Rep K H (.ref a) (.dict ((kvs.map fun p => .tuple (p.1.map keyD)).zip ds))
inductive RepAll (K : Fg) (H : Hp) : List V → List D → Prop
  | nil : RepAll K H [] []
  | cons {v : V} {vs : List V} {d : D} {ds : List D} : Rep K H v d → RepAll K H vs ds → RepAll K H (v :: vs) (d :: ds)
end
mutual
theorem Rep.kp {K : Fg} {H H' : Hp} (k : Kp H H') : ∀ {v : V} {d : D}, Rep K H v d → Rep K H' v d
  | _, _, .non => .non
  | _, _, .bl b => .bl b
  | _, _, .int i => .int i
  | _, _, .str x => .str x
  | _, _, .lst h r => .lst (h.kp k) (RepAll.kp k r)
  | _, _, .tup h r => .tup (sqT_kp k h) (RepAll.kp k r)
  | _, _, .dK h r => .dK (k.frz _ _ _ h) (RepAll.kp k r)
  | _, _, .dT h r => .dT (k.frz _ _ _ h) (RepAll.kp k r)
theorem RepAll.kp {K : Fg} {H H' : Hp} (k : Kp H H') : ∀ {vs : List V} {ds : List D}, RepAll K H vs ds → RepAll K H' vs ds
  | _, _, .nil => .nil
  | _, _, .cons h r => .cons (Rep.kp k h) (RepAll.kp k r)
end
section
variable {K : Fg} {H : Hp}
theorem RepAll.len : ∀ {vs : List V} {ds : List D}, RepAll K H vs ds → vs.length = ds.length
  | _, _, .nil => rfl
  | _, _, .cons _ r => by rw [List.length_cons, List.length_cons, RepAll.len r]
theorem RepAll.append : ∀ {vs ws : List V} {ds es : List D}, RepAll K H vs ds → RepAll K H ws es → RepAll K H (vs ++ ws) (ds ++ es)
  | _, _, _, _, .nil, s => s
  | _, _, _, _, .cons h r, s => .cons h (RepAll.append r s)
theorem RepAll.get : ∀ {vs : List V} {ds : List D} {i : Nat} {d : D}, RepAll K H vs ds → ds[i]? = some d → ∃ v, vs[i]? = some v ∧ Rep K H v d
  | _, _, _, _, .nil, e => by simp at e
  | _, _, 0, _, .cons h _, e => by simp at e; subst e; exact ⟨_, rfl, h⟩
  | _, _, i + 1, d, .cons _ r, e => by
    obtain ⟨v, h1, h2⟩ := RepAll.get (i := i) (d := d) r (by simpa using e)
    exact ⟨v, by simpa using h1, h2⟩
theorem RepAll.getV : ∀ {vs : List V} {ds : List D} {i : Nat} {v : V}, RepAll K H vs ds → vs[i]? = some v → ∃ d, ds[i]? = some d ∧ Rep K H v d
  | _, _, _, _, .nil, e => by simp at e
  | _, _, 0, _, .cons h _, e => by simp at e; subst e; exact ⟨_, rfl, h⟩
  | _, _, i + 1, d, .cons _ r, e => by
    obtain ⟨v, h1, h2⟩ := RepAll.getV (i := i) (v := d) r (by simpa using e)
    exact ⟨v, by simpa using h1, h2⟩
theorem RepAll.take : ∀ {vs : List V} {ds : List D} (n : Nat), RepAll K H vs ds → RepAll K H (vs.take n) (ds.take n)
  | _, _, 0, _ => .nil
  | _, _, _ + 1, .nil => .nil
  | _, _, n + 1, .cons h r => .cons h (RepAll.take n r)
theorem RepAll.drop : ∀ {vs : List V} {ds : List D} (n : Nat), RepAll K H vs ds → RepAll K H (vs.drop n) (ds.drop n)
  | _, _, 0, r => r
  | _, _, _ + 1, .nil => .nil
  | _, _, n + 1, .cons _ r => RepAll.drop n r
theorem RepAll.set {v : V} {d : D} (h : Rep K H v d) : ∀ {vs : List V} {ds : List D} (i : Nat), RepAll K H vs ds → RepAll K H (vs.set i v) (ds.set i d)
  | _, _, _, .nil => .nil
  | _, _, 0, .cons _ r => .cons h r
  | _, _, i + 1, .cons q r => .cons q (RepAll.set h i r)
theorem RepAll.reverse {vs : List V} {ds : List D} (h : RepAll K H vs ds) : RepAll K H vs.reverse ds.reverse := by
  induction vs generalizing ds with
  | nil => cases h; exact .nil
  | cons v vs ih =>
    cases h with
    | cons h r =>
      rw [List.reverse_cons, List.reverse_cons]
      exact (ih r).append (.cons h .nil)
end

/-! ### a frame's slots -/
/-- what is still changed: a list, a dict -/
inductive O where
  | lst (ds : List D)
  | dct (kvs : List (D × D))
def O.toD : O → D
  | .lst ds => .list ds
  | .dct kvs => .dict kvs
/-- a slot: nothing that counts; data; an object of the frame's own; one of the caller's, lent -/
inductive Sl where
  | un
  | imm (d : D)
  | own (o : O)
  | bor (o : O)
abbrev SS := List Sl
def Sl.obj : Sl → Option O
  | .own o => some o
  | .bor o => some o
  | _ => none
def Sl.put (s : Sl) (o : O) : Sl := match s with
  | .own _ => .own o
  | .bor _ => .bor o
  | s => s
def OwnAt (K : Fg) (H : Hp) (p : Addr) : O → Prop
  | .lst ds => ∃ xs, H p = some (.lst xs) ∧ RepAll K H xs ds
  | .dct ds => (∃ kvs es, H p = some (.dK kvs) ∧ RepAll K H (kvs.map (·.2)) es ∧ ds = (kvs.map fun p => keyD p.1).zip es) ∨
      ∃ kvs es, H p = some (.dT kvs) ∧ RepAll K H (kvs.map (·.2)) es ∧ ds = (kvs.map fun p => PyData.tuple (p.1.map keyD)).zip es
theorem OwnAt.kp {K : Fg} {H H' : Hp} {p : Addr} {o : O} (k : Kp H H') (e : H' p = H p) (h : OwnAt K H p o) : OwnAt K H' p o := by
  cases o with
  | lst ds => obtain ⟨xs, h1, h2⟩ := h; exact ⟨xs, e.trans h1, h2.kp k⟩
  | dct ds =>
    rcases h with ⟨kvs, es, h1, h2, h3⟩ | ⟨kvs, es, h1, h2, h3⟩
    · exact .inl ⟨kvs, es, e.trans h1, h2.kp k, h3⟩
    · exact .inr ⟨kvs, es, e.trans h1, h2.kp k, h3⟩
theorem OwnAt.loose {K : Fg} {H : Hp} {p : Addr} {o : O} (h : OwnAt K H p o) : ∃ u, H p = some u ∧ Loose u ∧ Mut (some u) ∧ ∀ od, Rep K (upd H p (.frz od u)) (.ref p) o.toD := by
  cases o with
  | lst ds =>
    obtain ⟨xs, h1, h2⟩ := h
    exact ⟨_, h1, loose_lst, trivial, fun od => .lst (.inl ⟨od, upd_same⟩) (h2.kp (Kp.upd h1 loose_lst))⟩
  | dct ds =>
    rcases h with ⟨kvs, es, h1, h2, rfl⟩ | ⟨kvs, es, h1, h2, rfl⟩
    · exact ⟨_, h1, loose_dK, trivial, fun od => .dK (o := od) upd_same (h2.kp (Kp.upd h1 loose_dK))⟩
    · exact ⟨_, h1, loose_dT, trivial, fun od => .dT (o := od) upd_same (h2.kp (Kp.upd h1 loose_dT))⟩

/-- the heap at the entry; which slots hold lent objects, and where -/
structure Fx where
  H0 : Hp
  P : Nat → Option Addr
def SlOk (K : Fg) (fx : Fx) (H : Hp) (i : Nat) (x : Option (Option V)) : Sl → Prop
  | .un => True
  | .imm d => ∃ v, x = some (some v) ∧ Rep K H v d
  | .own o => ∃ p, x = some (some (.ref p)) ∧ OwnAt K H p o ∧ fx.H0 p = none
  | .bor o => ∃ p, x = some (some (.ref p)) ∧ OwnAt K H p o ∧ fx.P i = some p
structure FR (K : Fg) (fx : Fx) (ss : SS) (σ : St) (H : Hp) : Prop where
  len : σ.length = ss.length
  kp : Kp fx.H0 H
  rest : ∀ a o, fx.H0 a = some o → (∀ i, fx.P i ≠ some a) → H a = some o
  there : ∀ a, H a = none → fx.H0 a = none
  slot : ∀ i sl, ss[i]? = some sl → SlOk K fx H i σ[i]? sl
  dis : ∀ (i j : Nat) (p : Addr) (si sj : Sl) (oi oj : O), ss[i]? = some si → ss[j]? = some sj → si.obj = some oi → sj.obj = some oj → σ[i]? = some (some (.ref p)) → σ[j]? = some (some (.ref p)) → i = j
section
variable {K : Fg} {fx : Fx} {ss : SS} {σ : St} {H H' : Hp}
theorem SlOk.obj {i : Nat} {x : Option (Option V)} {sl : Sl} {o : O} (h : SlOk K fx H i x sl) (e : sl.obj = some o) : ∃ p, x = some (some (.ref p)) ∧ OwnAt K H p o ∧ (fx.H0 p = none ∨ fx.P i = some p) := by
  cases sl with
  | un => cases e
  | imm d => cases e
  | own u => cases e; obtain ⟨p, a, b, c⟩ := h; exact ⟨p, a, b, .inl c⟩
  | bor u => cases e; obtain ⟨p, a, b, c⟩ := h; exact ⟨p, a, b, .inr c⟩
/-- a change at a place that no slot holds -/
theorem FR.other {p : Addr} {u o : HO} (f : FR K fx ss σ H) (h0 : fx.H0 p = none) (hp : ∀ u', H p = some u' → Loose u') (hn : ∀ (i : Nat) (si : Sl) (oi : O), ss[i]? = some si → si.obj = some oi → σ[i]? ≠ some (some (.ref p))) : FR K fx ss σ (upd H p o) := by
  have k : Kp H (upd H p o) := by
    cases e : H p with
    | none => exact .same (same_new e)
    | some u' => exact .upd e (hp _ e)
  refine ⟨f.len, f.kp.trans k, fun a x e hP => ?_, fun a e => ?_, fun i sl e => ?_, f.dis⟩
  · have ne : a ≠ p := ne_of_none e h0
    rw [upd_ne ne]
    exact f.rest a x e hP
  · by_cases ea : a = p
    · rw [ea]; exact h0
    · rw [upd_ne ea] at e
      exact f.there a e
  · have q := f.slot i sl e
    cases sl with
    | un => trivial
    | imm d => obtain ⟨v, a, b⟩ := q; exact ⟨v, a, b.kp k⟩
    | own x => 
      obtain ⟨r, a, b, c⟩ := q
      have ne : r ≠ p := fun z => hn i _ x e rfl (by rw [a, z])
      exact ⟨r, a, b.kp k (upd_ne ne), c⟩
    | bor x => 
      obtain ⟨r, a, b, c⟩ := q
      have ne : r ≠ p := fun z => hn i _ x e rfl (by rw [a, z])
      exact ⟨r, a, b.kp k (upd_ne ne), c⟩
theorem FR.root {i : Nat} {si : Sl} {oi : O} {p : Addr} (f : FR K fx ss σ H) (e : ss[i]? = some si) (eo : si.obj = some oi) (es : σ[i]? = some (some (.ref p))) : ∃ u, H p = some u ∧ Loose u := by
  obtain ⟨q, a, b, _⟩ := (f.slot i si e).obj eo
  rw [a] at es
  cases es
  obtain ⟨u, h1, h2, _⟩ := b.loose
  exact ⟨u, h1, h2⟩
/-- a new object -/
theorem FR.new {p : Addr} {o : HO} (f : FR K fx ss σ H) (h : H p = none) : FR K fx ss σ (upd H p o) :=
  f.other (u := o) (f.there p h) (fun u' e => by rw [h] at e; cases e) fun i si oi e eo es => by
    obtain ⟨u, h1, _⟩ := f.root e eo es
    rw [h] at h1; cases h1
/-- a new object, tracked nowhere -/
def NewAt (fx : Fx) (ss : SS) (σ : St) (p : Addr) : Prop := fx.H0 p = none ∧ ∀ (i : Nat) (si : Sl) (oi : O), ss[i]? = some si → si.obj = some oi → σ[i]? ≠ some (some (.ref p))
theorem FR.newAt {p : Addr} (f : FR K fx ss σ H) (h : H p = none) : NewAt fx ss σ p := ⟨f.there p h, fun i si oi e eo es => by
    obtain ⟨u, h1, _⟩ := f.root e eo es
    rw [h] at h1; cases h1⟩
theorem FR.lock {p : Addr} {u o : HO} (f : FR K fx ss σ H) (n : NewAt fx ss σ p) (h : H p = some u) (l : Loose u) : FR K fx ss σ (upd H p o) :=
  f.other (u := o) n.1 (fun u' e => by rw [h] at e; cases e; exact l) n.2
theorem get_set_eq {α : Type} {l : List α} {i j : Nat} {x y : α} (h : (l.set i x)[j]? = some y) : (j = i ∧ y = x) ∨ (j ≠ i ∧ l[j]? = some y) := by
  by_cases e : j = i
  · subst e
    rw [List.getElem?_set] at h
    simp only [if_true] at h
    split at h
    · exact .inl ⟨rfl, (Option.some.inj h).symm⟩
    · cases h
  · rw [List.getElem?_set_ne (Ne.symm e)] at h
    exact .inr ⟨e, h⟩
theorem FR.lt {i : Nat} (f : FR K fx ss σ H) (h : i < ss.length) : i < σ.length := by rw [f.len]; exact h
/-- x = data -/
theorem FR.imm {i : Nat} {v : V} {d : D} (f : FR K fx ss σ H) (hi : i < ss.length) (r : Rep K H v d) : FR K fx (ss.set i (.imm d)) (σ.set i (some v)) H := by
  have hσ := f.lt hi
  refine ⟨by rw [List.length_set, List.length_set]; exact f.len, f.kp, f.rest, f.there, fun j sl e => ?_, fun j k p sj sk oj ok ej ek eoj eok hj hk => ?_⟩
  · rcases get_set_eq e with ⟨rfl, rfl⟩ | ⟨ne, e⟩
    · exact ⟨v, by rw [List.getElem?_set_self hσ], r⟩
    · rw [List.getElem?_set_ne (Ne.symm ne)]
      exact f.slot j sl e
  · rcases get_set_eq ej with ⟨rfl, rfl⟩ | ⟨nj, ej⟩
    · cases eoj
    · rcases get_set_eq ek with ⟨rfl, rfl⟩ | ⟨nk, ek⟩
      · cases eok
      · rw [List.getElem?_set_ne (Ne.symm nj)] at hj
        rw [List.getElem?_set_ne (Ne.symm nk)] at hk
        exact f.dis j k p sj sk oj ok ej ek eoj eok hj hk
/-- what a slot holds is forgotten -/
theorem FR.un {i : Nat} {x : Option V} (f : FR K fx ss σ H) : FR K fx (ss.set i .un) (σ.set i x) H := by
  refine ⟨by rw [List.length_set, List.length_set]; exact f.len, f.kp, f.rest, f.there, fun j sl e => ?_, fun j k p sj sk oj ok ej ek eoj eok hj hk => ?_⟩
  · rcases get_set_eq e with ⟨rfl, rfl⟩ | ⟨ne, e⟩
    · trivial
    · rw [List.getElem?_set_ne (Ne.symm ne)]
      exact f.slot j sl e
  · rcases get_set_eq ej with ⟨rfl, rfl⟩ | ⟨nj, ej⟩
    · cases eoj
    · rcases get_set_eq ek with ⟨rfl, rfl⟩ | ⟨nk, ek⟩
      · cases eok
      · rw [List.getElem?_set_ne (Ne.symm nj)] at hj
        rw [List.getElem?_set_ne (Ne.symm nk)] at hk
        exact f.dis j k p sj sk oj ok ej ek eoj eok hj hk
/-- x = an object of one's own -/
theorem FR.own {i : Nat} {p : Addr} {o : O} (f : FR K fx ss σ H) (hi : i < ss.length) (r : OwnAt K H p o) (n : NewAt fx ss σ p) : FR K fx (ss.set i (.own o)) (σ.set i (some (.ref p))) H := by
  have hσ := f.lt hi
  refine ⟨by rw [List.length_set, List.length_set]; exact f.len, f.kp, f.rest, f.there, fun j sl e => ?_, fun j k q sj sk oj ok ej ek eoj eok hj hk => ?_⟩
  · rcases get_set_eq e with ⟨rfl, rfl⟩ | ⟨ne, e⟩
    · exact ⟨p, by rw [List.getElem?_set_self hσ], r, n.1⟩
    · rw [List.getElem?_set_ne (Ne.symm ne)]
      exact f.slot j sl e
  · by_cases nj : j = i
    · by_cases nk : k = i
      · rw [nj, nk]
      · rw [nj, List.getElem?_set_self hσ] at hj
        cases hj
        rw [List.getElem?_set_ne (Ne.symm nk)] at ek hk
        exact absurd hk (n.2 k sk ok ek eok)
    · by_cases nk : k = i
      · rw [nk, List.getElem?_set_self hσ] at hk
        cases hk
        rw [List.getElem?_set_ne (Ne.symm nj)] at ej hj
        exact absurd hj (n.2 j sj oj ej eoj)
      · rw [List.getElem?_set_ne (Ne.symm nj)] at ej hj
        rw [List.getElem?_set_ne (Ne.symm nk)] at ek hk
        exact f.dis j k q sj sk oj ok ej ek eoj eok hj hk
theorem put_obj {si : Sl} {oi o' : O} (h : si.obj = some oi) : (si.put o').obj = some o' := by
  cases si with
  | un => cases h
  | imm d => cases h
  | own u => rfl
  | bor u => rfl
/-- the object of a slot is changed -/
theorem FR.mut {i : Nat} {p : Addr} {si : Sl} {oi o' : O} {u : HO} (f : FR K fx ss σ H) (e : ss[i]? = some si) (eo : si.obj = some oi) (es : σ[i]? = some (some (.ref p))) (new : Kp H (upd H p u) → OwnAt K (upd H p u) p o') :
    FR K fx (ss.set i (si.put o')) σ (upd H p u) ∧ Kp H (upd H p u) := by
  obtain ⟨q, a, b, c⟩ := (f.slot i si e).obj eo
  rw [a] at es
  cases es
  obtain ⟨w, h1, h2, _⟩ := b.loose
  have k : Kp H (upd H p u) := .upd h1 h2
  have lt : i < ss.length := (List.getElem?_eq_some_iff.mp e).1
  refine ⟨⟨by rw [List.length_set]; exact f.len, f.kp.trans k, fun x o ex hP => ?_, fun x ex => ?_, fun j sl ej => ?_, fun j l q sj sk oj ok ej ek eoj eok hj hk => ?_⟩, k⟩
  · have ne : x ≠ p := by
      rcases c with c | c
      · exact ne_of_none ex c
      · exact fun z => hP i (by rw [c, z])
    rw [upd_ne ne]
    exact f.rest x o ex hP
  · by_cases xp : x = p
    · rw [xp, upd_same] at ex; cases ex
    · rw [upd_ne xp] at ex
      exact f.there x ex
  · rcases get_set_eq ej with ⟨rfl, rfl⟩ | ⟨ne, ej⟩
    · have q := f.slot j si e
      cases si with
      | un => cases eo
      | imm d => cases eo
      | own z => obtain ⟨r, a1, b1, c1⟩ := q; rw [a] at a1; cases a1; exact ⟨p, a, new k, c1⟩
      | bor z => obtain ⟨r, a1, b1, c1⟩ := q; rw [a] at a1; cases a1; exact ⟨p, a, new k, c1⟩
    · have q := f.slot j sl ej
      cases sl with
      | un => trivial
      | imm d => obtain ⟨v, a1, b1⟩ := q; exact ⟨v, a1, b1.kp k⟩
      | own z => 
        obtain ⟨r, a1, b1, c1⟩ := q
        have nr : r ≠ p := fun z' => ne (f.dis j i p _ si z oi ej e rfl eo (by rw [a1, z']) a)
        exact ⟨r, a1, b1.kp k (upd_ne nr), c1⟩
      | bor z => 
        obtain ⟨r, a1, b1, c1⟩ := q
        have nr : r ≠ p := fun z' => ne (f.dis j i p _ si z oi ej e rfl eo (by rw [a1, z']) a)
        exact ⟨r, a1, b1.kp k (upd_ne nr), c1⟩
  · have oj' : ∃ sj0 oj0, ss[j]? = some sj0 ∧ sj0.obj = some oj0 := by
      rcases get_set_eq ej with ⟨rfl, rfl⟩ | ⟨_, ej⟩
      · exact ⟨si, oi, e, eo⟩
      · exact ⟨sj, oj, ej, eoj⟩
    have ok' : ∃ sj0 oj0, ss[l]? = some sj0 ∧ sj0.obj = some oj0 := by
      rcases get_set_eq ek with ⟨rfl, rfl⟩ | ⟨_, ek⟩
      · exact ⟨si, oi, e, eo⟩
      · exact ⟨sk, ok, ek, eok⟩
    obtain ⟨s1, o1, a1, b1⟩ := oj'
    obtain ⟨s2, o2, a2, b2⟩ := ok'
    exact f.dis j l q s1 s2 o1 o2 a1 a2 b1 b2 hj hk
/-- an object of one's own is locked -/
theorem FR.freeze {i : Nat} {p : Addr} {o : O} {u w : HO} (f : FR K fx ss σ H) (e : ss[i]? = some (.own o)) (es : σ[i]? = some (some (.ref p))) (hw : H p = some w) (lw : Loose w) (new : Kp H (upd H p u) → Rep K (upd H p u) (.ref p) o.toD) :
    FR K fx (ss.set i (.imm o.toD)) σ (upd H p u) ∧ Kp H (upd H p u) := by
  have k : Kp H (upd H p u) := .upd hw lw
  obtain ⟨q, a, b, c⟩ := f.slot i _ e
  rw [a] at es
  cases es
  have lt : i < ss.length := (List.getElem?_eq_some_iff.mp e).1
  have f1 : FR K fx (ss.set i .un) (σ.set i (some (.ref p))) H := f.un
  have es : σ.set i (some (.ref p)) = σ := by
    apply List.ext_getElem?
    intro j
    by_cases hj : j = i
    · subst hj
      rw [List.getElem?_set_self (f.lt lt), a]
    · rw [List.getElem?_set_ne (Ne.symm hj)]
  rw [es] at f1
  have f2 : FR K fx (ss.set i .un) σ (upd H p u) := f1.other (u := u) c (fun u' e' => by rw [hw] at e'; cases e'; exact lw) fun j sj oj ej eoj hj => by
    rcases get_set_eq ej with ⟨rfl, rfl⟩ | ⟨ne, ej⟩
    · cases eoj
    · exact ne (f.dis j i p sj _ oj o ej e eoj rfl hj a)
  have f3 := f2.imm (i := i) (by rw [List.length_set]; exact lt) (new k)
  rw [List.set_set, es] at f3
  exact ⟨f3, k⟩
end

/-! ### readings by plain functions -/
inductive Res (α : Type) where
  | no
  | ok (a : α) (ss : SS)
def Res.bind {α β : Type} (r : Res α) (g : α → SS → Res β) : Res β := match r with
  | .no => .no
  | .ok a ss => g a ss
theorem bind_ok {α β : Type} {r : Res α} {g : α → SS → Res β} {b : β} {ss : SS} (h : r.bind g = .ok b ss) : ∃ a s1, r = .ok a s1 ∧ g a s1 = .ok b ss := by
  cases r with
  | no => cases h
  | ok a s1 => exact ⟨a, s1, rfl, h⟩
def Res.of {α : Type} (o : Option α) (ss : SS) : Res α := match o with
  | some a => .ok a ss
  | none => .no
theorem of_ok {α : Type} {o : Option α} {a : α} {ss s1 : SS} (h : Res.of o ss = .ok a s1) : o = some a ∧ s1 = ss := by
  cases o with
  | none => cases h
  | some b => cases h; exact ⟨rfl, rfl⟩
/-- the ends of a statement -/
inductive Out where
  | no
  | nx (ss : SS)
  | rt (r : Sl) (ss : SS)
  | bk (ss : SS)
  | ct (ss : SS)
abbrev FE := SS → Res D
abbrev FN := SS → Res O
abbrev FB := SS → Res Bool
abbrev FL := SS → Res (List D)
abbrev FS := SS → Out
/-- an argument: data, or what the slot i holds, lent -/
inductive Ar where
  | d (d : D)
  | ref (i : Nat)
abbrev FA := SS → Res (List Ar)

def tD (K : Fg) (f : FE) : TE := fun σ H Q => ∃ fx ss d ss', FR K fx ss σ H ∧ f ss = .ok d ss' ∧ ∀ v H', Kp H H' → FR K fx ss' σ H' → Rep K H' v d → Q v H'
def tN (K : Fg) (f : FN) : TE := fun σ H Q => ∃ fx ss o ss', FR K fx ss σ H ∧ f ss = .ok o ss' ∧ ∀ p H', Kp H H' → FR K fx ss' σ H' → OwnAt K H' p o → NewAt fx ss' σ p → Q (.ref p) H'
def tT (K : Fg) (f : FB) : TT := fun σ H Q => ∃ fx ss b ss', FR K fx ss σ H ∧ f ss = .ok b ss' ∧ ∀ H', Kp H H' → FR K fx ss' σ H' → Q b H'
def tL (K : Fg) (f : FL) : TA := fun σ H Q => ∃ fx ss ds ss', FR K fx ss σ H ∧ f ss = .ok ds ss' ∧ ∀ vs H', Kp H H' → FR K fx ss' σ H' → RepAll K H' vs ds → Q vs H'
inductive ArgR (K : Fg) (H : Hp) (σ : St) : V → Ar → Prop
  | d {v : V} {d : D} : Rep K H v d → ArgR K H σ v (.d d)
  | ref {v : V} {i : Nat} : σ[i]? = some (some v) → ArgR K H σ v (.ref i)
abbrev ArgsR (K : Fg) (H : Hp) (σ : St) : List V → List Ar → Prop := Paired (ArgR K H σ)
def tA (K : Fg) (f : FA) : TA := fun σ H Q => ∃ fx ss ds ss', FR K fx ss σ H ∧ f ss = .ok ds ss' ∧ ∀ vs H', Kp H H' → FR K fx ss' σ H' → ArgsR K H' σ vs ds → Q vs H'
/-- what is handed back -/
def RetR (K : Fg) (fx : Fx) (ss : SS) (σ : St) (H : Hp) (v : V) : Sl → Prop
  | .imm d => Rep K H v d
  | .own o => ∃ p, v = .ref p ∧ OwnAt K H p o ∧ NewAt fx ss σ p
  | _ => False
def tS (K : Fg) (f : FS) : TS := fun E σ H => ∃ fx ss, FR K fx ss σ H ∧ match f ss with
  | .no => False
  | .nx ss' => ∀ σ' H', Kp H H' → FR K fx ss' σ' H' → E.nx σ' H'
  | .rt r ss' => ∀ v σ' H', Kp H H' → FR K fx ss' σ' H' → RetR K fx ss' σ' H' v r → E.rt v H'
  | .bk ss' => ∀ σ' H', Kp H H' → FR K fx ss' σ' H' → E.bk σ' H'
  | .ct ss' => ∀ σ' H', Kp H H' → FR K fx ss' σ' H' → E.ct σ' H'

section
variable {X : Cx}
theorem _root_.L2.PE.imp {e : Expr} {t t' : TE} (h : PE X e t) (w : ∀ σ H Q, t' σ H Q → t σ H Q) : PE X e t' := ⟨fun pins s σ H Q I q => h.run pins s σ H Q I (w σ H Q q)⟩
theorem _root_.L2.PT.imp {e : Expr} {t t' : TT} (h : PT X e t) (w : ∀ σ H Q, t' σ H Q → t σ H Q) : PT X e t' := ⟨fun pins s σ H Q I q => h.run pins s σ H Q I (w σ H Q q)⟩
theorem _root_.L2.PW.imp {e : Expr} {t t' : TT} (h : PW X e t) (w : ∀ σ H Q, t' σ H Q → t σ H Q) : PW X e t' := ⟨fun whole pins s σ H Q I q => h.run whole pins s σ H Q I (w σ H Q q)⟩
theorem _root_.L2.PA.imp {es : List Expr} {t t' : TA} (h : PA X es t) (w : ∀ σ H Q, t' σ H Q → t σ H Q) : PA X es t' := ⟨fun pos pins s σ H Q I q => h.run pos pins s σ H Q I (w σ H Q q)⟩
theorem _root_.L2.PS.imp {st : Stmt} {t t' : TS} (h : PS X st t) (w : ∀ E σ H, t' E σ H → t E σ H) : PS X st t' := ⟨fun pins s σ H E I q => h.run pins s σ H E I (w E σ H q)⟩
theorem _root_.L2.PSs.imp {st : List Stmt} {t t' : TS} (h : PSs X st t) (w : ∀ E σ H, t' E σ H → t E σ H) : PSs X st t' := ⟨fun pins s σ H E I q => h.run pins s σ H E I (w E σ H q)⟩
/-- a new object is locked: from then on it is data -/
def eFz (f : FN) : FE := fun ss => (f ss).bind fun o s1 => .ok o.toD s1
theorem pe_fz {e : Expr} {f : FN} (h : PE X e (tN X.K f)) : PE X e (tD X.K (eFz f)) := by
  refine ⟨fun pins s σ H Q I q => ?_⟩
  obtain ⟨fx, ss, d, ss', hf, e1, k⟩ := q
  obtain ⟨o, s1, e2, e3⟩ := bind_ok e1
  cases e3
  refine thn (h.run pins s σ H (fun v H' => ∃ p, v = .ref p ∧ Kp H H' ∧ FR X.K fx ss' σ H' ∧ OwnAt X.K H' p o ∧ NewAt fx ss' σ p) I ⟨fx, ss, o, ss', hf, e2, fun p H' a b c d => ⟨p, rfl, a, b, c, d⟩⟩) fun u s2 q => ?_
  obtain ⟨v, H', I2, r, p, rfl, kp, f2, ow, nw⟩ := q
  obtain ⟨w, hw, lw, mw, rp⟩ := ow.loose
  obtain ⟨od, I3⟩ := I2.lock hw mw
  exact ⟨.ref p, _, I3, r, k _ _ (kp.trans (Kp.upd hw lw)) (f2.lock nw hw lw) (rp od)⟩
end
end Dt

/-! Dt1: rules for expressions and tests. -/
namespace Dt
open PySem PySem.Spec L2
open PyProof.Rows hiding St
section
variable {K : Fg} {fx : Fx} {ss : SS} {σ : St} {H H' : Hp}
theorem OwnAt.same {p : Addr} {o : O} (h : Same H H') (w : OwnAt K H p o) : OwnAt K H' p o := by
  obtain ⟨u, e, _⟩ := w.loose
  exact w.kp (Kp.same h) ((h _ _ e).trans e.symm)
theorem FR.same (f : FR K fx ss σ H) (h : Same H H') : FR K fx ss σ H' := by
  refine ⟨f.len, f.kp.trans (Kp.same h), fun a o e hP => h _ _ (f.rest a o e hP), fun a e => f.there a (h.free e), fun i sl e => ?_, f.dis⟩
  have q := f.slot i sl e
  cases sl with
  | un => trivial
  | imm d => obtain ⟨v, a, b⟩ := q; exact ⟨v, a, b.kp (Kp.same h)⟩
  | own x => obtain ⟨r, a, b, c⟩ := q; exact ⟨r, a, b.same h, c⟩
  | bor x => obtain ⟨r, a, b, c⟩ := q; exact ⟨r, a, b.same h, c⟩
theorem same_upd {p : Addr} {o : HO} (h : H p = none) : Same H (upd H p o) := same_new h
theorem same_lock {p : Addr} {o : HO} (s : Same H H') (h : H p = none) : Same H (upd H' p o) := fun a x e => by
  rw [upd_ne (ne_of_none e h)]
  exact s a x e
end

/-! ### operators by data -/
def rD (K : Fg) (g : D → D → Option D) : R2 := fun x y H Q => ∃ d e z, Rep K H x d ∧ Rep K H y e ∧ g d e = some z ∧ ∀ v H', Same H H' → Rep K H' v z → Q v H'
def rDN (K : Fg) (g : D → D → Option O) : R2 := fun x y H Q => ∃ d e z, Rep K H x d ∧ Rep K H y e ∧ g d e = some z ∧ ∀ p H', H p = none → Same H H' → OwnAt K H' p z → Q (.ref p) H'
def uD (K : Fg) (g : D → Option D) : V → Hp → VK → Prop := fun x H Q => ∃ d z, Rep K H x d ∧ g d = some z ∧ ∀ v H', Same H H' → Rep K H' v z → Q v H'
def cD (K : Fg) (g : List D → Option D) : List V → Hp → VK → Prop := fun vs H Q => ∃ ds z, RepAll K H vs ds ∧ g ds = some z ∧ ∀ v H', Same H H' → Rep K H' v z → Q v H'
def cDN (K : Fg) (g : List D → Option O) : List V → Hp → VK → Prop := fun vs H Q => ∃ ds z, RepAll K H vs ds ∧ g ds = some z ∧ ∀ p H', H p = none → Same H H' → OwnAt K H' p z → Q (.ref p) H'
def mD (K : Fg) (g : D → List D → Option D) : V → List V → Hp → VK → Prop := fun x vs H Q => ∃ d ds z, Rep K H x d ∧ RepAll K H vs ds ∧ g d ds = some z ∧ ∀ v H', Same H H' → Rep K H' v z → Q v H'
def mDN (K : Fg) (g : D → List D → Option O) : V → List V → Hp → VK → Prop := fun x vs H Q => ∃ d ds z, Rep K H x d ∧ RepAll K H vs ds ∧ g d ds = some z ∧ ∀ p H', H p = none → Same H H' → OwnAt K H' p z → Q (.ref p) H'
section
variable {X : Cx}
/-- locking at the end of a step -/
theorem ep_fz {pins : List (Addr × Obj)} {σ : St} {H : Hp} {Q : VK} {u : Value} {s' : Shared} {z : O} (h : EP X pins σ (fun v H' => ∃ p, v = .ref p ∧ H p = none ∧ Same H H' ∧ OwnAt X.K H' p z) u s')
    (k : ∀ v H', Same H H' → Rep X.K H' v z.toD → Q v H') : EP X pins σ Q u s' := by
  obtain ⟨v, H', I, r, p, rfl, hp, sm, ow⟩ := h
  obtain ⟨w, hw, lw, mw, rp⟩ := ow.loose
  obtain ⟨od, I3⟩ := I.lock hw mw
  exact ⟨.ref p, _, I3, r, k _ _ (same_lock sm hp) (rp od)⟩
theorem _root_.L2.OpR.imp {f : Value → Value → Sem Value} {r r' : R2} (h : OpR X f r) (w : ∀ x y H Q, r' x y H Q → r x y H Q) : OpR X f r' := fun pins s σ H x y v u Q I rx ry q => h pins s σ H x y v u Q I rx ry (w x y H Q q)
theorem opFz {f : Value → Value → Sem Value} {g : D → D → Option O} (h : OpR X f (rDN X.K g)) : OpR X f (rD X.K fun d e => (g d e).map O.toD) := by
  intro pins s σ H x y v u Q I rx ry q
  obtain ⟨d, e, z, hd, he, hz, k⟩ := q
  obtain ⟨o, hg, rfl⟩ := Option.map_eq_some_iff.mp hz
  exact thn (h pins s σ H x y v u (fun v H' => ∃ p, v = .ref p ∧ H p = none ∧ Same H H' ∧ OwnAt X.K H' p o) I rx ry ⟨d, e, o, hd, he, hg, fun p H' a b c => ⟨p, rfl, a, b, c⟩⟩) fun _ _ q => ep_fz q k
theorem _root_.L2.CallR.imp {f : Value} {r r' : List V → Hp → VK → Prop} (h : CallR X f r) (w : ∀ xs H Q, r' xs H Q → r xs H Q) : CallR X f r' := fun pins s σ H xs us Q I rx q => h pins s σ H xs us Q I rx (w xs H Q q)
theorem callFz {f : Value} {g : List D → Option O} (h : CallR X f (cDN X.K g)) : CallR X f (cD X.K fun ds => (g ds).map O.toD) := by
  intro pins s σ H xs us Q I rx q
  obtain ⟨ds, z, hd, hz, k⟩ := q
  obtain ⟨o, hg, rfl⟩ := Option.map_eq_some_iff.mp hz
  exact thn (h pins s σ H xs us (fun v H' => ∃ p, v = .ref p ∧ H p = none ∧ Same H H' ∧ OwnAt X.K H' p o) I rx ⟨ds, o, hd, hg, fun p H' a b c => ⟨p, rfl, a, b, c⟩⟩) fun _ _ q => ep_fz q k
theorem _root_.L2.MtR.imp {id : String} {r r' : V → List V → Hp → VK → Prop} (h : MtR X id r) (w : ∀ x xs H Q, r' x xs H Q → r x xs H Q) : MtR X id r' := fun pins s σ H x xs v us Q I rx rs q => h pins s σ H x xs v us Q I rx rs (w x xs H Q q)
theorem mtFz {id : String} {g : D → List D → Option O} (h : MtR X id (mDN X.K g)) : MtR X id (mD X.K fun d ds => (g d ds).map O.toD) := by
  intro pins s σ H x xs v us Q I rx rs q
  obtain ⟨d, ds, z, hx, hd, hz, k⟩ := q
  obtain ⟨o, hg, rfl⟩ := Option.map_eq_some_iff.mp hz
  exact thn (h pins s σ H x xs v us (fun v H' => ∃ p, v = .ref p ∧ H p = none ∧ Same H H' ∧ OwnAt X.K H' p o) I rx rs ⟨d, ds, o, hx, hd, hg, fun p H' a b c => ⟨p, rfl, a, b, c⟩⟩) fun _ _ q => ep_fz q k
theorem _root_.L2.IxR.imp {r r' : R2} (h : IxR X r) (w : ∀ x y H Q, r' x y H Q → r x y H Q) : IxR X r' := fun a b pins s σ H x y v u Q I rx ry q e => h a b pins s σ H x y v u Q I rx ry (w x y H Q q) e

/-! ### expressions -/
def eV (i : Nat) : FE := fun ss => match ss[i]? with
  | some (.imm d) => .ok d ss
  | _ => .no
def eC (d : D) : FE := fun ss => .ok d ss
def eOp (g : D → D → Option D) (a b : FE) : FE := fun ss => (a ss).bind fun x s1 => (b s1).bind fun y s2 => .of (g x y) s2
def eUn (g : D → Option D) (a : FE) : FE := fun ss => (a ss).bind fun x s1 => .of (g x) s1
def eCB (g : List D → Option D) (a : FL) : FE := fun ss => (a ss).bind fun x s1 => .of (g x) s1
def eM (g : D → List D → Option D) (a : FE) (b : FL) : FE := fun ss => (a ss).bind fun x s1 => (b s1).bind fun y s2 => .of (g x y) s2
def lNil : FL := fun ss => .ok [] ss
def lCons (a : FE) (b : FL) : FL := fun ss => (a ss).bind fun x s1 => (b s1).bind fun y s2 => .ok (x :: y) s2
theorem xv (i : Nat) {x : Str} {pos : Pos} (hN : X.N[i]? = some x := by rfl) (hv : Vis X.env.scope x := by first | exact Or.inl rfl | exact Or.inr (Or.inl rfl) | exact Or.inr (Or.inr rfl)) (hd : (x == ("__debug__" : Str)) = false := by decide)
    (hcd : (x == ("__classdict__" : Str)) = false := by decide) : PE X (.Name x pos) (tD X.K (eV i)) := by
  refine (pe_var hN hv hd hcd).imp fun σ H Q q => ?_
  obtain ⟨fx, ss, d, ss', f, e, k⟩ := q
  unfold eV at e
  split at e
  · rename_i d' e1
    cases e
    obtain ⟨v, h1, h2⟩ := f.slot i _ e1
    exact ⟨v, h1, k v H (Kp.refl H) f h2⟩
  · cases e
theorem pe_tC {e : Expr} {v : V} {d : D} (h : PE X e (tC v)) (r : ∀ H, Rep X.K H v d) : PE X e (tD X.K (eC d)) := by
  refine h.imp fun σ H Q q => ?_
  obtain ⟨fx, ss, d, ss', f, e, k⟩ := q
  cases e
  exact k v H (Kp.refl H) f (r H)
theorem xi {i j pos} : PE X (.Constant (.int i) j pos) (tD X.K (eC (.int i))) := pe_tC pe_int fun _ => .int _
theorem xb {b j pos} : PE X (.Constant (.bool b) j pos) (tD X.K (eC (.bool b))) := pe_tC pe_bl fun _ => .bl _
theorem xn {j pos} : PE X (.Constant .none j pos) (tD X.K (eC .none)) := pe_tC pe_non fun _ => .non
theorem xs {x j pos} : PE X (.Constant (.str x) j pos) (tD X.K (eC (.str x))) := pe_tC pe_str fun _ => .str _
/-- a constant of the module -/
def GlD (K : Fg) (mg : Str → Option Value) (x : Str) (d : D) : Prop := ∃ v u, mg x = some u ∧ RelV v u ∧ ∀ H, Rep K H v d
theorem xg {x : Str} {d : D} {pos : Pos} (m : GlD X.K X.mg x d) (hg : Gl X x := by rfl) (hd : (x == ("__debug__" : Str)) = false := by decide) : PE X (.Name x pos) (tD X.K (eC d)) := by
  obtain ⟨v, u, hm, r, rp⟩ := m
  exact pe_tC (pe_glob hg hm r hd) rp
variable {a b : Expr} {es : List Expr} {pos : Pos} {fa fb : FE} {fl : FL}
/-- two in a row -/
theorem two {σ : St} {H : Hp} {R : V → V → Hp → Prop} {Q : VK} {g : D → D → SS → Res D} (q : tD X.K (fun ss => (fa ss).bind fun x s1 => (fb s1).bind fun y s2 => g x y s2) σ H Q)
    (h : ∀ v u H2 fx s2 x y d s3, Kp H H2 → FR X.K fx s2 σ H2 → Rep X.K H2 v x → Rep X.K H2 u y → g x y s2 = .ok d s3 → (∀ w H', Kp H H' → FR X.K fx s3 σ H' → Rep X.K H' w d → Q w H') → R v u H2) :
    tD X.K fa σ H fun v H1 => tD X.K fb σ H1 fun u H2 => R v u H2 := by
  obtain ⟨fx, ss, d, s3, f, e, k⟩ := q
  obtain ⟨x, s1, e1, e⟩ := bind_ok e
  obtain ⟨y, s2, e2, e⟩ := bind_ok e
  refine ⟨fx, ss, x, s1, f, e1, fun v H1 k1 f1 r1 => ⟨fx, s1, y, s2, f1, e2, fun u H2 k2 f2 r2 => ?_⟩⟩
  exact h v u H2 fx s2 x y d s3 (k1.trans k2) f2 (r1.kp k2) r2 e k
theorem xop {op : Operator} {g : D → D → Option D} (ho : OpR X (binaryOp op) (rD X.K g)) (ha : PE X a (tD X.K fa)) (hb : PE X b (tD X.K fb)) : PE X (.BinOp a op b pos) (tD X.K (eOp g fa fb)) := by
  refine (pe_op ho ha hb).imp fun σ H Q q => two (R := fun v u H2 => rD X.K g v u H2 Q) q fun v u H2 fx s2 x y d s3 k f r1 r2 e q => ?_
  obtain ⟨eg, rfl⟩ := of_ok e
  exact ⟨x, y, d, r1, r2, eg, fun w H' sm rw => q w H' (k.trans (.same sm)) (f.same sm) rw⟩
theorem xcmp {op : CmpOp} {g : D → D → Option D} (ho : OpR X (compareOp op) (rD X.K g)) (ha : PE X a (tD X.K fa)) (hb : PE X b (tD X.K fb)) (hm : behindInMarks op b = false := by first | exact nomark _ | rfl) : PE X (.Compare a [op] [b] pos) (tD X.K (eOp g fa fb)) := by
  refine (pe_cmpR ho ha hb hm).imp fun σ H Q q => two (R := fun v u H2 => rD X.K g v u H2 Q) q fun v u H2 fx s2 x y d s3 k f r1 r2 e q => ?_
  obtain ⟨eg, rfl⟩ := of_ok e
  exact ⟨x, y, d, r1, r2, eg, fun w H' sm rw => q w H' (k.trans (.same sm)) (f.same sm) rw⟩
theorem xix {g : D → D → Option D} (hr : IxR X (rD X.K g)) (ha : PE X a (tD X.K fa)) (hb : PE X b (tD X.K fb)) (hs : PlainIx b := by exact fun _ _ => rfl) : PE X (.Subscript a b pos) (tD X.K (eOp g fa fb)) := by
  refine (pe_ix hr ha hb hs).imp fun σ H Q q => two (R := fun v u H2 => rD X.K g v u H2 Q) q fun v u H2 fx s2 x y d s3 k f r1 r2 e q => ?_
  obtain ⟨eg, rfl⟩ := of_ok e
  exact ⟨x, y, d, r1, r2, eg, fun w H' sm rw => q w H' (k.trans (.same sm)) (f.same sm) rw⟩
theorem xun {op : UnaryOp} {g : D → Option D} (ho : UnR X (unaryOp op) (uD X.K g)) (ha : PE X a (tD X.K fa)) : PE X (.UnaryOp op a pos) (tD X.K (eUn g fa)) := by
  refine (pe_un ho ha).imp fun σ H Q q => ?_
  obtain ⟨fx, ss, d, s3, f, e, k⟩ := q
  obtain ⟨x, s1, e1, e⟩ := bind_ok e
  obtain ⟨eg, rfl⟩ := of_ok e
  exact ⟨fx, ss, x, _, f, e1, fun v H1 k1 f1 r1 => ⟨x, d, r1, eg, fun w H' sm rw => k w H' (k1.trans (.same sm)) (f1.same sm) rw⟩⟩
/-! argument lists -/
theorem an : PA X [] (tL X.K lNil) := by
  refine pa_nil.imp fun σ H Q q => ?_
  obtain ⟨fx, ss, d, s3, f, e, k⟩ := q
  cases e
  exact k [] H (Kp.refl H) f .nil
theorem ac (ha : PE X a (tD X.K fa)) (hr : PA X es (tL X.K fl)) (hs : starEach (a :: es) X.env = (false, eval a X.env) :: starEach es X.env := by rfl) : PA X (a :: es) (tL X.K (lCons fa fl)) := by
  refine (pa_cons ha hr hs).imp fun σ H Q q => ?_
  obtain ⟨fx, ss, d, s3, f, e, k⟩ := q
  obtain ⟨x, s1, e1, e⟩ := bind_ok e
  obtain ⟨y, s2, e2, e⟩ := bind_ok e
  cases e
  exact ⟨fx, ss, x, s1, f, e1, fun v H1 k1 f1 r1 => ⟨fx, s1, y, _, f1, e2, fun vs H2 k2 f2 r2 => k _ H2 (k1.trans k2) f2 (.cons (r1.kp k2) r2)⟩⟩
/-! displays -/
def eTup (a : FL) : FE := fun ss => (a ss).bind fun x s1 => if x.length ≤ sizeLine then .ok (.tuple x) s1 else .no
def nLst (a : FL) : FN := fun ss => (a ss).bind fun x s1 => if x.length ≤ sizeLine then .ok (.lst x) s1 else .no
theorem xt {n} (h : PA X es (tL X.K fl)) : PE X (.Tuple es n pos) (tD X.K (eTup fl)) := by
  refine (pe_tup h).imp fun σ H Q q => ?_
  obtain ⟨fx, ss, d, s3, f, e, k⟩ := q
  obtain ⟨x, s1, e1, e⟩ := bind_ok e
  split at e
  · rename_i hl
    cases e
    refine ⟨fx, ss, x, _, f, e1, fun vs H1 k1 f1 r1 => ⟨by rw [r1.len]; exact hl, fun p hp => k _ _ (k1.trans (.same (same_new hp))) (f1.new hp) (.tup (.of upd_same) (r1.kp (.same (same_new hp))))⟩⟩
  · cases e
theorem xl {pos : Pos} (h : PA X es (tL X.K fl)) : PE X (.List es pos) (tN X.K (nLst fl)) := by
  refine (pe_lst h).imp fun σ H Q q => ?_
  obtain ⟨fx, ss, d, s3, f, e, k⟩ := q
  obtain ⟨x, s1, e1, e⟩ := bind_ok e
  split at e
  · rename_i hl
    cases e
    refine ⟨fx, ss, x, _, f, e1, fun vs H1 k1 f1 r1 => ⟨by rw [r1.len]; exact hl, fun p hp => k _ _ (k1.trans (.same (same_new hp))) (f1.new hp) ⟨vs, upd_same, r1.kp (.same (same_new hp))⟩ (f1.newAt hp)⟩⟩
  · cases e
/-! calls of built-ins -/
theorem xcb {id : String} {x : Str} {p : Pos} {g : List D → Option D} (hc : CallR X (.builtin id) (cD X.K g)) (hm : X.mg x = none) (hv : bootBuiltins x = some (.builtin id)) (ha : PA X (a :: es) (tL X.K fl)) (hg : Gl X x := by rfl) (hn : x ≠ "__name__" := by decide) (hdb : (x == ("__debug__" : Str)) = false := by decide)
    (he : starEach (a :: es) X.env = (false, eval a X.env) :: starEach es X.env := by rfl) (hpl : (backTo pos (starEach es X.env)).any (·.1) = false := by rfl) : PE X (.Call (.Name x p) (a :: es) [] pos) (tD X.K (eCB g fl)) := by
  refine (pe_callB hc hg hm hv ha hn hdb he hpl).imp fun σ H Q q => ?_
  obtain ⟨fx, ss, d, s3, f, e, k⟩ := q
  obtain ⟨x, s1, e1, e⟩ := bind_ok e
  obtain ⟨eg, rfl⟩ := of_ok e
  exact ⟨fx, ss, x, _, f, e1, fun v H1 k1 f1 r1 => ⟨x, d, r1, eg, fun w H' sm rw => k w H' (k1.trans (.same sm)) (f1.same sm) rw⟩⟩
theorem xct {id : String} {x : Str} {p : Pos} {g : List D → Option D} (hc : CallR X (.type id) (cD X.K g)) (hm : X.mg x = none) (hv : bootBuiltins x = some (.type id)) (ha : PA X (a :: es) (tL X.K fl)) (hg : Gl X x := by rfl) (hn : x ≠ "__name__" := by decide) (hdb : (x == ("__debug__" : Str)) = false := by decide)
    (he : starEach (a :: es) X.env = (false, eval a X.env) :: starEach es X.env := by rfl) (hpl : (backTo pos (starEach es X.env)).any (·.1) = false := by rfl) : PE X (.Call (.Name x p) (a :: es) [] pos) (tD X.K (eCB g fl)) := by
  refine (pe_callTy hc hg hm hv ha hn hdb he hpl).imp fun σ H Q q => ?_
  obtain ⟨fx, ss, d, s3, f, e, k⟩ := q
  obtain ⟨x, s1, e1, e⟩ := bind_ok e
  obtain ⟨eg, rfl⟩ := of_ok e
  exact ⟨fx, ss, x, _, f, e1, fun v H1 k1 f1 r1 => ⟨x, d, r1, eg, fun w H' sm rw => k w H' (k1.trans (.same sm)) (f1.same sm) rw⟩⟩
/-! truth: bools alone -/
def asB : D → Option Bool
  | .bool b => some b
  | _ => none
def bOf (a : FE) : FB := fun ss => (a ss).bind fun x s1 => .of (asB x) s1
theorem asB_some {d : D} {b : Bool} (h : asB d = some b) : d = .bool b := by
  cases d <;> first | (cases h; rfl) | cases h
theorem Rep.bool {K : Fg} {H : Hp} {v : V} {b : Bool} (h : Rep K H v (.bool b)) : v = .bl b := by cases h; rfl
theorem tbx {ta : FE} {σ : St} {H : Hp} {Q : Bool → Hp → Prop} (q : tT X.K (bOf ta) σ H Q) : tB (tD X.K ta) σ H Q := by
  obtain ⟨fx, ss, d, s3, f, e, k⟩ := q
  obtain ⟨x, s1, e1, e⟩ := bind_ok e
  obtain ⟨e, e0⟩ := of_ok e
  have ex := asB_some e
  rw [ex, ← e0] at e1
  exact ⟨fx, ss, _, _, f, e1, fun v H1 k1 f1 r1 => ⟨d, r1.bool, k H1 k1 f1⟩⟩
/-- an expression as a test -/
theorem tv (h : PE X a (tD X.K fa)) (he : ∀ whole, isTrue a X.env whole = (do let v ← whole; standAt a.pos; holding [v] (truthy v)) := by intro _; rfl) : PT X a (tT X.K (bOf fa)) :=
  (pt_val h he).imp fun _ _ _ q => tbx q
def bAnd (a b : FB) : FB := fun ss => (a ss).bind fun x s1 => if x = true then b s1 else .ok false s1
def bOr (a b : FB) : FB := fun ss => (a ss).bind fun x s1 => if x = true then .ok true s1 else b s1
def bNot (a : FB) : FB := fun ss => (a ss).bind fun x s1 => .ok (!x) s1
variable {ba bb : FB} {rest : List Expr}
theorem tand1 (ha : PT X a (tT X.K ba)) : PW X (.BoolOp .And [a] pos) (tT X.K ba) := pw_and1 ha
theorem tor1 (ha : PT X a (tT X.K ba)) : PW X (.BoolOp .Or [a] pos) (tT X.K ba) := pw_or1 ha
theorem tand (ha : PT X a (tT X.K ba)) (hb : PW X (.BoolOp .And (b :: rest) pos) (tT X.K bb)) : PW X (.BoolOp .And (a :: b :: rest) pos) (tT X.K (bAnd ba bb)) := by
  refine (pw_and ha hb).imp fun σ H Q q => ?_
  obtain ⟨fx, ss, d, s3, f, e, k⟩ := q
  obtain ⟨x, s1, e1, e⟩ := bind_ok e
  refine ⟨fx, ss, x, s1, f, e1, fun H1 k1 f1 => ?_⟩
  split at e
  · rename_i hx
    subst hx
    exact iteT ⟨fx, s1, d, s3, f1, e, fun H2 k2 f2 => k H2 (k1.trans k2) f2⟩
  · rename_i hx
    cases e
    rw [if_neg hx]
    exact k H1 k1 f1
theorem tor (ha : PT X a (tT X.K ba)) (hb : PW X (.BoolOp .Or (b :: rest) pos) (tT X.K bb)) : PW X (.BoolOp .Or (a :: b :: rest) pos) (tT X.K (bOr ba bb)) := by
  refine (pw_or ha hb).imp fun σ H Q q => ?_
  obtain ⟨fx, ss, d, s3, f, e, k⟩ := q
  obtain ⟨x, s1, e1, e⟩ := bind_ok e
  refine ⟨fx, ss, x, s1, f, e1, fun H1 k1 f1 => ?_⟩
  split at e
  · rename_i hx
    cases e
    rw [if_pos hx]
    exact k H1 k1 f1
  · rename_i hx
    rw [if_neg hx]
    exact ⟨fx, s1, d, s3, f1, e, fun H2 k2 f2 => k H2 (k1.trans k2) f2⟩
theorem tnot (ha : PT X a (tT X.K ba)) : PT X (.UnaryOp .Not a pos) (tT X.K (bNot ba)) := by
  refine (pt_not ha).imp fun σ H Q q => ?_
  obtain ⟨fx, ss, d, s3, f, e, k⟩ := q
  obtain ⟨x, s1, e1, e⟩ := bind_ok e
  cases e
  exact ⟨fx, ss, x, s3, f, e1, fun H1 k1 f1 => k H1 k1 f1⟩
/-- and, or, not as values, of bools -/
def eAnd (a b : FE) : FE := fun ss => (a ss).bind fun x s1 => match x with
  | .bool true => b s1
  | .bool false => .ok (.bool false) s1
  | _ => .no
def eOr (a b : FE) : FE := fun ss => (a ss).bind fun x s1 => match x with
  | .bool true => .ok (.bool true) s1
  | .bool false => b s1
  | _ => .no
def eNot (a : FE) : FE := fun ss => (a ss).bind fun x s1 => match x with
  | .bool x => .ok (.bool (!x)) s1
  | _ => .no
theorem xone {op} (h : PE X a (tD X.K fa)) : PE X (.BoolOp op [a] pos) (tD X.K fa) := pe_one h
theorem xand (ha : PE X a (tD X.K fa)) (hb : PE X (.BoolOp .And (b :: rest) pos) (tD X.K fb)) : PE X (.BoolOp .And (a :: b :: rest) pos) (tD X.K (eAnd fa fb)) := by
  refine (pe_and ha hb).imp fun σ H Q q => ?_
  obtain ⟨fx, ss, d, s3, f, e, k⟩ := q
  obtain ⟨x, s1, e1, e⟩ := bind_ok e
  refine ⟨fx, ss, x, s1, f, e1, fun v H1 k1 f1 r1 => ?_⟩
  split at e
  · exact ⟨true, r1.bool, iteT ⟨fx, s1, d, s3, f1, e, fun v H2 k2 f2 => k v H2 (k1.trans k2) f2⟩⟩
  · cases e
    exact ⟨false, r1.bool, iteF (k _ H1 k1 f1 (.bl _))⟩
  · cases e
theorem xor (ha : PE X a (tD X.K fa)) (hb : PE X (.BoolOp .Or (b :: rest) pos) (tD X.K fb)) : PE X (.BoolOp .Or (a :: b :: rest) pos) (tD X.K (eOr fa fb)) := by
  refine (pe_or ha hb).imp fun σ H Q q => ?_
  obtain ⟨fx, ss, d, s3, f, e, k⟩ := q
  obtain ⟨x, s1, e1, e⟩ := bind_ok e
  refine ⟨fx, ss, x, s1, f, e1, fun v H1 k1 f1 r1 => ?_⟩
  split at e
  · cases e
    exact ⟨true, r1.bool, iteT (k _ H1 k1 f1 (.bl _))⟩
  · exact ⟨false, r1.bool, iteF ⟨fx, s1, d, s3, f1, e, fun v H2 k2 f2 => k v H2 (k1.trans k2) f2⟩⟩
  · cases e
theorem xnot (ha : PE X a (tD X.K fa)) : PE X (.UnaryOp .Not a pos) (tD X.K (eNot fa)) := by
  refine (pe_not ha).imp fun σ H Q q => ?_
  obtain ⟨fx, ss, d, s3, f, e, k⟩ := q
  obtain ⟨x, s1, e1, e⟩ := bind_ok e
  split at e
  · cases e
    exact ⟨fx, ss, _, _, f, e1, fun v H1 k1 f1 r1 => ⟨_, r1.bool, k _ H1 k1 f1 (.bl _)⟩⟩
  · cases e
def eIf (c : FB) (a b : FE) : FE := fun ss => (c ss).bind fun x s1 => if x = true then a s1 else b s1
theorem xif {c : Expr} (hc : PT X c (tT X.K ba)) (ha : PE X a (tD X.K fa)) (hb : PE X b (tD X.K fb)) : PE X (.IfExp c a b pos) (tD X.K (eIf ba fa fb)) := by
  refine (pe_ifExp hc ha hb).imp fun σ H Q q => ?_
  obtain ⟨fx, ss, d, s3, f, e, k⟩ := q
  obtain ⟨x, s1, e1, e⟩ := bind_ok e
  refine ⟨fx, ss, x, s1, f, e1, fun H1 k1 f1 => ?_⟩
  split at e
  · rename_i hx
    rw [if_pos hx]
    exact ⟨fx, s1, d, s3, f1, e, fun v H2 k2 f2 => k v H2 (k1.trans k2) f2⟩
  · rename_i hx
    rw [if_neg hx]
    exact ⟨fx, s1, d, s3, f1, e, fun v H2 k2 f2 => k v H2 (k1.trans k2) f2⟩
/-- a op b op c -/
def eCh (g h : D → D → Option D) (a b c : FE) : FE := fun ss => (a ss).bind fun x s1 => (b s1).bind fun y s2 => (Res.of (g x y) s2).bind fun z s3 => match z with
  | .bool true => (c s3).bind fun w s4 => .of (h y w) s4
  | .bool false => .ok (.bool false) s3
  | _ => .no
theorem xch {c : Expr} {fc : FE} {op op' : CmpOp} {g g' : D → D → Option D} (ho : OpR X (compareOp op) (rD X.K g)) (ho' : OpR X (compareOp op') (rD X.K g')) (ha : PE X a (tD X.K fa)) (hb : PE X b (tD X.K fb)) (hc : PE X c (tD X.K fc)) (hm : lastMarks [op, op'] [b, c] = false := by with_unfolding_all rfl) :
    PE X (.Compare a [op, op'] [b, c] pos) (tD X.K (eCh g g' fa fb fc)) := by
  refine (pe_chain ho ho' ha hb hc hm).imp fun σ H Q q => ?_
  obtain ⟨fx, ss, d, s5, f, e, k⟩ := q
  obtain ⟨x, s1, e1, e⟩ := bind_ok e
  obtain ⟨y, s2, e2, e⟩ := bind_ok e
  obtain ⟨z, s3, e3, e7⟩ := bind_ok e
  obtain ⟨e4, rfl⟩ := of_ok e3
  clear e
  refine ⟨fx, ss, x, s1, f, e1, fun v H1 k1 f1 r1 => ⟨fx, s1, y, _, f1, e2, fun u H2 k2 f2 r2 => ⟨x, y, z, r1.kp k2, r2, e4, fun w H3 sm rw => ?_⟩⟩⟩
  have f3 := f2.same sm
  have k3 := (k1.trans k2).trans (.same sm)
  split at e7
  · obtain ⟨w2, s4, e5, e⟩ := bind_ok e7
    obtain ⟨eg, rfl⟩ := of_ok e
    exact ⟨true, rw.bool, iteT ⟨fx, _, w2, _, f3, e5, fun t H4 k4 f4 r4 => ⟨y, w2, d, (r2.kp (.same sm)).kp k4, r4, eg, fun t2 H5 sm5 r5 => k t2 H5 ((k3.trans k4).trans (.same sm5)) (f4.same sm5) r5⟩⟩⟩
  · cases e7
    exact ⟨false, rw.bool, iteF (k _ H3 k3 f3 (.bl _))⟩
  · cases e7

/-! comparisons as tests -/
theorem tread {e : Expr} {t : TE} {f : FE} (h : PT X e (tTest t)) (w : ∀ σ H Q, tD X.K f σ H Q → t σ H Q) : PT X e (tT X.K (bOf f)) :=
  h.imp fun σ H Q q => w σ H _ (by
    obtain ⟨fx, ss, d, s3, f, e, k⟩ := q
    obtain ⟨x, s1, e1, e⟩ := bind_ok e
    obtain ⟨e, e0⟩ := of_ok e
    have ex := asB_some e
    rw [ex, ← e0] at e1
    exact ⟨fx, ss, _, _, f, e1, fun v H1 k1 f1 r1 => ⟨d, r1.bool, k H1 k1 f1⟩⟩)
theorem cmp_read {g : D → D → Option D} {σ : St} {H : Hp} {Q : VK} (q : tD X.K (eOp g fa fb) σ H Q) : tOp (rD X.K g) (tD X.K fa) (tD X.K fb) σ H Q :=
  two (R := fun v u H2 => rD X.K g v u H2 Q) q fun v u H2 fx s2 x y d s3 k f r1 r2 e q => by
    obtain ⟨eg, rfl⟩ := of_ok e
    exact ⟨x, y, d, r1, r2, eg, fun w H' sm rw => q w H' (k.trans (.same sm)) (f.same sm) rw⟩
theorem tcmp {op : CmpOp} {g : D → D → Option D} (ho : OpR X (compareOp op) (rD X.K g)) (ha : PE X a (tD X.K fa)) (hb : PE X b (tD X.K fb)) (hm : behindInMarks op b = false := by first | exact nomark _ | rfl) : PT X (.Compare a [op] [b] pos) (tT X.K (bOf (eOp g fa fb))) :=
  tread (pt_cmpR ho ha hb hm) fun _ _ _ q => cmp_read q
theorem ch_read {c : Expr} {fc : FE} {g g' : D → D → Option D} {σ : St} {H : Hp} {Q : VK} (q : tD X.K (eCh g g' fa fb fc) σ H Q) : tChain (rD X.K g) (rD X.K g') (tD X.K fa) (tD X.K fb) (tD X.K fc) σ H Q := by
  obtain ⟨fx, ss, d, s5, f, e, k⟩ := q
  obtain ⟨x, s1, e1, e⟩ := bind_ok e
  obtain ⟨y, s2, e2, e⟩ := bind_ok e
  obtain ⟨z, s3, e3, e7⟩ := bind_ok e
  obtain ⟨e4, rfl⟩ := of_ok e3
  clear e
  refine ⟨fx, ss, x, s1, f, e1, fun v H1 k1 f1 r1 => ⟨fx, s1, y, _, f1, e2, fun u H2 k2 f2 r2 => ⟨x, y, z, r1.kp k2, r2, e4, fun w H3 sm rw => ?_⟩⟩⟩
  have f3 := f2.same sm
  have k3 := (k1.trans k2).trans (.same sm)
  split at e7
  · obtain ⟨w2, s4, e5, e⟩ := bind_ok e7
    obtain ⟨eg, rfl⟩ := of_ok e
    exact ⟨true, rw.bool, iteT ⟨fx, _, w2, _, f3, e5, fun t H4 k4 f4 r4 => ⟨y, w2, d, (r2.kp (.same sm)).kp k4, r4, eg, fun t2 H5 sm5 r5 => k t2 H5 ((k3.trans k4).trans (.same sm5)) (f4.same sm5) r5⟩⟩⟩
  · cases e7
    exact ⟨false, rw.bool, iteF (k _ H3 k3 f3 (.bl _))⟩
  · cases e7
theorem tch {c : Expr} {fc : FE} {op op' : CmpOp} {g g' : D → D → Option D} (ho : OpR X (compareOp op) (rD X.K g)) (ho' : OpR X (compareOp op') (rD X.K g')) (ha : PE X a (tD X.K fa)) (hb : PE X b (tD X.K fb)) (hc : PE X c (tD X.K fc)) (hm : lastMarks [op, op'] [b, c] = false := by with_unfolding_all rfl) :
    PT X (.Compare a [op, op'] [b, c] pos) (tT X.K (bOf (eCh g g' fa fb fc))) :=
  tread (pt_chain ho ho' ha hb hc hm) fun _ _ _ q => ch_read (c := c) q
end
end Dt

/-! Dt2: operators by data. -/
namespace Dt
open PySem PySem.Spec L2
open PyProof.Rows hiding St
open PySem.W (alike alikeAll dataLt)

/-! ### reading off -/
mutual
theorem Rep.dp {K : Fg} {H : Hp} : ∀ {v : V} {d : D}, Rep K H v d → d.plain = true → Dp K H v d
  | _, _, .non, _ => .non
  | _, _, .bl b, _ => .bl b
  | _, _, .int i, _ => .int i
  | _, _, .str x, _ => .str x
  | _, _, .lst h r, n => .lst h.sq (RepAll.dp r (by rw [PyData.plain] at n; exact n))
  | _, _, .tup h r, n => .tup h (RepAll.dp r (by rw [PyData.plain] at n; exact n))
  | _, _, .dK h r, n => by rw [PyData.plain] at n; cases n
  | _, _, .dT h r, n => by rw [PyData.plain] at n; cases n
theorem RepAll.dp {K : Fg} {H : Hp} : ∀ {vs : List V} {ds : List D}, RepAll K H vs ds → PyData.plainAll ds = true → DpAll K H vs ds
  | _, _, .nil, _ => .nil
  | _, _, .cons h r, n => by
    rw [PyData.plainAll, Bool.and_eq_true] at n
    exact .cons (Rep.dp h n.1) (RepAll.dp r n.2)
end
section
variable {K : Fg} {H : Hp}
theorem Rep.intv {v : V} {i : Int} (h : Rep K H v (.int i)) : v = .int i := by cases h; rfl
theorem Rep.strv {v : V} {i : Str} (h : Rep K H v (.str i)) : v = .str i := by cases h; rfl
theorem Rep.nonv {v : V} (h : Rep K H v .none) : v = .non := by cases h; rfl
theorem Rep.tupv {v : V} {ds : List D} (h : Rep K H v (.tuple ds)) : ∃ a xs, v = .ref a ∧ SqT K H a xs ∧ RepAll K H xs ds := by
  cases h with
  | tup h r => exact ⟨_, _, rfl, h, r⟩
theorem Rep.lstv {v : V} {ds : List D} (h : Rep K H v (.list ds)) : ∃ a xs, v = .ref a ∧ LstF K H a xs ∧ RepAll K H xs ds := by
  cases h with
  | lst h r => exact ⟨_, _, rfl, h, r⟩
theorem Rep.seqv {v : V} {ds : List D} {d : D} (e : d = .list ds ∨ d = .tuple ds) (h : Rep K H v d) : ∃ a xs, v = .ref a ∧ (SqL K H a xs ∨ SqT K H a xs) ∧ RepAll K H xs ds := by
  rcases e with rfl | rfl
  · obtain ⟨a, xs, e, h, r⟩ := h.lstv; exact ⟨a, xs, e, .inl h.sq, r⟩
  · obtain ⟨a, xs, e, h, r⟩ := h.tupv; exact ⟨a, xs, e, .inr h, r⟩
end

/-! ### + - * // % ** -/
def fits (n : Nat) (d : D) : Option D := if n ≤ sizeLine then some d else none
theorem fits_some {n : Nat} {d e : D} (h : fits n d = some e) : n ≤ sizeLine ∧ d = e := by
  unfold fits at h
  split at h
  · exact ⟨by assumption, Option.some.inj h⟩
  · cases h
def dAdd : D → D → Option D
  | .int i, .int j => some (.int (i + j))
  | .str x, .str y => fits (x.length + y.length) (.str (x ++ y))
  | .tuple xs, .tuple ys => fits (xs.length + ys.length) (.tuple (xs ++ ys))
  | .list xs, .list ys => fits (xs.length + ys.length) (.list (xs ++ ys))
  | .bool b, .int j => some (.int ((if b = true then 1 else 0) + j))
  | .int i, .bool b => some (.int (i + if b = true then 1 else 0))
  | _, _ => none
section
variable {X : Cx}
def rCatF (K : Fg) : R2 := fun x y H Q => ∃ l b xs zs, x = .ref l ∧ y = .ref b ∧ SqL K H l xs ∧ SqL K H b zs ∧ xs.length + zs.length ≤ sizeLine ∧ ∀ p, H p = none → Q (.ref p) (upd H p (.lst (xs ++ zs)))
theorem op_catF : OpR X (binaryOp .Add) (rCatF X.K) := by
  intro pins s σ H x y v u Q I rx ry h
  obtain ⟨l, b, xs, zs, rfl, rfl, hH, hB, hz, q⟩ := h
  cases rx
  cases ry
  obtain ⟨its, r, ⟨⟨cls, dd, data, sl⟩, n, ho, hc, hdn, hd⟩, hl⟩ := I.list hH
  obtain ⟨its2, r2, ⟨⟨cls2, dd2, data2, sl2⟩, n2, ho2, hc2, hdn2, hd2⟩, hl2⟩ := I.list hB
  simp only at hc hd hc2 hd2
  subst hc hd hc2 hd2
  have e1 := r.length
  have e2 := r2.length
  have e : its.toArray ++ its2.toArray = (its ++ its2).toArray := by simp
  refine concat_meets ⟨_, ho, rfl⟩ ⟨_, ho2, rfl⟩ PySem.noFill_list_add PySem.seq_list_add PySem.F.slot_list_add PySem.F.entry_list_add (PySem.F.args_list_add_2 _ _) (list_addW l b its.toArray its2.toArray n n2 dd dd2 sl sl2 (by rw [List.size_toArray, List.size_toArray]; omega)) ⟨ho, ho2, ?_⟩
  rw [e]
  exact ⟨.ref _, _, I.lnew (t' := s.toks) (r.append r2) (by rw [List.length_append]; omega), rfl, q _ I.fresh⟩
theorem opAdd : OpR X (binaryOp .Add) (rD X.K dAdd) := by
  intro pins s σ H x y v u Q I rx ry ⟨d, e, z, hd, he, hz, k⟩
  unfold dAdd at hz
  split at hz
  · cases hz
    obtain rfl := hd.intv
    obtain rfl := he.intv
    exact op_add pins s σ H _ _ _ _ Q I rx ry ⟨_, _, rfl, rfl, k _ _ (Same.refl H) (.int _)⟩
  · obtain ⟨hl, rfl⟩ := fits_some hz
    obtain rfl := hd.strv
    obtain rfl := he.strv
    exact op_add_str pins s σ H _ _ _ _ Q I rx ry ⟨_, _, rfl, rfl, hl, k _ _ (Same.refl H) (.str _)⟩
  · obtain ⟨hl, rfl⟩ := fits_some hz
    obtain ⟨a, xs, rfl, h1, r1⟩ := hd.tupv
    obtain ⟨b, ys, rfl, h2, r2⟩ := he.tupv
    refine op_catA pins s σ H _ _ _ _ Q I rx ry ⟨a, b, xs, ys, rfl, rfl, h1, h2, by rw [r1.len, r2.len]; exact hl, fun e => ?_, fun _ e => ?_, fun _ _ p hp => ?_⟩
    · subst e
      cases r1
      exact k _ _ (Same.refl H) he
    · subst e
      cases r2
      rw [List.append_nil] at k
      exact k _ _ (Same.refl H) hd
    · exact k _ _ (same_new hp) (.tup (.of upd_same) ((r1.append r2).kp (.same (same_new hp))))
  · obtain ⟨hl, rfl⟩ := fits_some hz
    obtain ⟨a, xs, rfl, h1, r1⟩ := hd.lstv
    obtain ⟨b, ys, rfl, h2, r2⟩ := he.lstv
    refine thn (op_catF pins s σ H _ _ _ _ (fun v H' => ∃ p, v = .ref p ∧ H p = none ∧ Same H H' ∧ OwnAt X.K H' p (.lst _)) I rx ry ⟨a, b, xs, ys, rfl, rfl, h1.sq, h2.sq, by rw [r1.len, r2.len]; exact hl, fun p hp => ⟨p, rfl, hp, same_new hp, _, upd_same, (r1.append r2).kp (.same (same_new hp))⟩⟩) fun _ _ q => ep_fz q k
  · cases hz
    obtain rfl := hd.bool
    obtain rfl := he.intv
    cases rx
    obtain ⟨t, rfl⟩ := ry
    exact PySem.IntBool.add_bool_int ⟨.int _, H, I.tok _, ⟨_, rfl⟩, k _ _ (Same.refl H) (.int _)⟩
  · cases hz
    obtain rfl := hd.intv
    obtain rfl := he.bool
    cases ry
    obtain ⟨t, rfl⟩ := rx
    exact add_int_bool ⟨.int _, H, I.tok _, ⟨_, rfl⟩, k _ _ (Same.refl H) (.int _)⟩
  · cases hz
def dI (g : Int → Int → Option D) : D → D → Option D
  | .int i, .int j => g i j
  | _, _ => none
def dSub : D → D → Option D
  | .int i, .int j => some (.int (i - j))
  | .bool b, .int j => some (.int ((if b = true then 1 else 0) - j))
  | .int i, .bool b => some (.int (i - if b = true then 1 else 0))
  | _, _ => none
def dDiv : D → D → Option D := dI fun i j => if 0 < j ∧ j.natAbs.log2 < 9000 then some (.int (i / j)) else none
def dMod : D → D → Option D := dI fun i j => if 0 < j then some (.int (i % j)) else none
def dPow : D → D → Option D := dI fun i j => if 0 ≤ j ∧ j ≤ 1000000 ∧ i.natAbs < 2 ^ 64 then some (.int (i ^ j.toNat)) else none
theorem dI_some {g : Int → Int → Option D} {d e z : D} (h : dI g d e = some z) : ∃ i j, d = .int i ∧ e = .int j ∧ g i j = some z := by
  unfold dI at h
  split at h
  · exact ⟨_, _, rfl, rfl, h⟩
  · cases h
theorem opSub : OpR X (binaryOp .Sub) (rD X.K dSub) := by
  intro pins s σ H x y v u Q I rx ry ⟨d, e, z, hd, he, hz, k⟩
  unfold dSub at hz
  split at hz
  · cases hz
    obtain rfl := hd.intv
    obtain rfl := he.intv
    exact op_sub pins s σ H _ _ _ _ Q I rx ry ⟨_, _, rfl, rfl, k _ _ (Same.refl H) (.int _)⟩
  · cases hz
    obtain rfl := hd.bool
    obtain rfl := he.intv
    cases rx
    obtain ⟨t, rfl⟩ := ry
    exact PySem.IntBool.sub_bool_int ⟨.int _, H, I.tok _, ⟨_, rfl⟩, k _ _ (Same.refl H) (.int _)⟩
  · cases hz
    obtain rfl := hd.intv
    obtain rfl := he.bool
    cases ry
    obtain ⟨t, rfl⟩ := rx
    exact PySem.IntBool.sub_int_bool ⟨.int _, H, I.tok _, ⟨_, rfl⟩, k _ _ (Same.refl H) (.int _)⟩
  · cases hz
theorem opDiv : OpR X (binaryOp .FloorDiv) (rD X.K dDiv) := by
  intro pins s σ H x y v u Q I rx ry ⟨d, e, z, hd, he, hz, k⟩
  obtain ⟨i, j, rfl, rfl, hg⟩ := dI_some hz
  clear hz
  split at hg
  · rename_i hc
    cases hg
    obtain rfl := hd.intv
    obtain rfl := he.intv
    exact op_fdivW pins s σ H _ _ _ _ Q I rx ry ⟨_, _, rfl, rfl, hc, k _ _ (Same.refl H) (.int _)⟩
  · cases hg
theorem opMod : OpR X (binaryOp .Mod) (rD X.K dMod) := by
  intro pins s σ H x y v u Q I rx ry ⟨d, e, z, hd, he, hz, k⟩
  obtain ⟨i, j, rfl, rfl, hg⟩ := dI_some hz
  clear hz
  split at hg
  · rename_i hc
    cases hg
    obtain rfl := hd.intv
    obtain rfl := he.intv
    exact op_mod pins s σ H _ _ _ _ Q I rx ry ⟨_, _, rfl, rfl, hc, k _ _ (Same.refl H) (.int _)⟩
  · cases hg
theorem opPow : OpR X (binaryOp .Pow) (rD X.K dPow) := by
  intro pins s σ H x y v u Q I rx ry ⟨d, e, z, hd, he, hz, k⟩
  obtain ⟨i, j, rfl, rfl, hg⟩ := dI_some hz
  clear hz
  split at hg
  · rename_i hc
    cases hg
    obtain rfl := hd.intv
    obtain rfl := he.intv
    exact op_pow pins s σ H _ _ _ _ Q I rx ry ⟨_, _, rfl, rfl, hc, k _ _ (Same.refl H) (.int _)⟩
  · cases hg
/-- x * n: an int, a text, a list, a tuple -/
def repS (x : Str) (n : Nat) : Str := ⟨(List.replicate n x.cps.toList).flatten.toArray⟩
def dMul : D → D → Option D
  | .int i, .int j => if i.natAbs.log2 + j.natAbs.log2 < 1000000 then some (.int (i * j)) else none
  | .str x, .int n => if 2 ≤ n ∧ n ≤ 1000000 ∧ 1 ≤ x.length then fits (x.length * n.toNat) (.str (repS x n.toNat)) else if n = 1 ∧ x.length ≤ sizeLine then some (.str x) else none
  | .list xs, .int n => if -1000000 ≤ n ∧ n ≤ 1000000 then fits (xs.length * n.toNat) (.list (List.replicate n.toNat xs).flatten) else none
  | .tuple xs, .int n => if xs ≠ [] ∧ 2 ≤ n ∧ n ≤ 1000 ∧ xs.length ≤ 1000 then some (.tuple (List.replicate n.toNat xs).flatten) else none
  | _, _ => none

def rRepF (K : Fg) : R2 := fun x y H Q => ∃ l k xs, x = .ref l ∧ y = .int k ∧ SqL K H l xs ∧ -(2 ^ 63) ≤ k ∧ k < 2 ^ 63 ∧ xs.length * k.toNat ≤ sizeLine ∧
  ∀ p, H p = none → Q (.ref p) (upd H p (.lst (List.replicate k.toNat xs).flatten))
theorem rmulL (a : Int) (t : Tok) (l : Addr) (items : Array Value) (n : Nat) (d : Option Addr) (sl : Array (Option Value)) :
    Meets (Builtin.«int.__rmul__» ⟨[.int a t, .ref l], []⟩) (fun _ R s => s.heap.get? l = some { cls := .type "list", dict := d, data := .seq items n, slots := sl } ∧ R (.ok (.ret Value.notImplemented)) s) :=
  .of_wp fun prog w A R s h => by obtain ⟨hp, g, d, tk, os⟩ := s; obtain ⟨hl, h⟩ := h; wp_walk; exact ⟨_, rfl, h⟩
theorem mulL (l : Addr) (items : Array Value) (n : Nat) (d : Option Addr) (sl : Array (Option Value)) (x : Int) (u : Tok) (hc0 : ¬(!Builtin.List.listFitsIndex x) = true) (hc1 : ¬items.size * x.toNat > (2 ^ 63 - 1) / 8) (hc2 : ¬Builtin.List.listTooLong (items.size * x.toNat) = true) :
    Meets (Builtin.«list.__mul__» ⟨[.ref l, .int x u], []⟩) (fun _ R s => s.heap.get? l = some { cls := .type "list", dict := d, data := .seq items n, slots := sl } ∧ R (.ok (.ret (Value.ref s.heap.objs.size))) { s with heap := s.heap.push { cls := Value.type "list", data := Data.seq (List.foldl (fun x1 x2 => x1 ++ x2) #[] (List.replicate (if items.isEmpty = true then 0 else x.toNat) items)) }, toks := s.toks }) :=
  .of_wp fun prog w A R s h => by
    obtain ⟨hp, g, d, tk, os⟩ := s; obtain ⟨hl, h⟩ := h
    have hsz := AutoListH.joined_fits hc2
    wp_walk; refine wpAny_ite_false (decide_eq_false (Nat.not_lt.mpr hsz)) ?_; wp_walk; exact ⟨_, rfl, h⟩
theorem op_repF : OpR X (binaryOp .Mult) (rRepF X.K) := by
  intro pins s σ H x y v u Q I rx ry h
  obtain ⟨l, k, xs, rfl, rfl, hH, h1, h2, hz, q⟩ := h
  cases rx
  obtain ⟨t, rfl⟩ := ry
  obtain ⟨its, r, ⟨⟨cls, dd, data, sl⟩, n, ho, hc, hdn, hd⟩, hl0⟩ := I.list hH
  simp only at hc hd
  subst hc hd
  have hl := r.length
  have hlen : its.toArray.size * k.toNat ≤ sizeLine := by rw [List.size_toArray, ← hl]; exact hz
  have hcap : ¬ its.toArray.size * k.toNat > (2 ^ 63 - 1) / 8 := by
    have : (sizeLine : Nat) ≤ (2 ^ 63 - 1) / 8 := by decide
    omega
  have hfit : ¬ (!Builtin.List.listFitsIndex k) = true := by
    rw [fitsIndex_both h1 h2]
    exact Bool.false_ne_true
  have hlong : ¬ Builtin.List.listTooLong (its.toArray.size * k.toNat) = true := by
    rw [notLongL hlen]
    exact Bool.false_ne_true
  have hnew : List.foldl (fun x1 x2 => x1 ++ x2) #[] (List.replicate (if its.toArray.isEmpty = true then 0 else k.toNat) its.toArray) = (List.replicate k.toNat its).flatten.toArray := by
    have f0 : ∀ m : Nat, List.foldl (fun x1 x2 => x1 ++ x2) #[] (List.replicate m its.toArray) = (List.replicate m its).flatten.toArray := fun m => by
      have := foldl_rep its m []
      rw [List.nil_append] at this
      exact this
    rw [f0]
    cases its with
    | nil => simp
    | cons a r' => rw [if_neg (by simp)]
  refine wpAny_binaryOp_repeat_ref (T := "list") (U := "int") (by decide) ⟨_, ho, rfl⟩ (fun s' => typeIs_int s' k t) noFill_list_mul F.fills_int_mul F.slot_int_rmul repeat_list F.slot_int_index.lookup
    (call_meets F.slot_int_rmul (typeIs_int s k t) F.entry_int_rmul (F.args_int_rmul_2 _ _) (rmulL k t l its.toArray n dd sl)
      ⟨ho, rfl, ⟨_, ho, rfl⟩, call_meets F.slot_list_mul ⟨_, ho, rfl⟩ F.entry_list_mul (F.args_list_mul_2 _ _) (mulL l its.toArray n dd sl k t hfit hcap hlong) ⟨ho, ?_⟩⟩)
  rw [hnew]
  exact ⟨.ref _, _, I.lnew (t' := s.toks) (r.rep k.toNat) (by rw [PyProof.Rows.lm_len_rep_flat, Nat.mul_comm]; exact hz), rfl, q _ I.fresh⟩
theorem RepAll.rep {K : Fg} {H : Hp} {vs : List V} {ds : List D} (h : RepAll K H vs ds) : ∀ n : Nat, RepAll K H (List.replicate n vs).flatten (List.replicate n ds).flatten
  | 0 => .nil
  | n + 1 => by
    rw [List.replicate_succ, List.replicate_succ, List.flatten_cons, List.flatten_cons]
    exact h.append (RepAll.rep h n)
theorem repS_eq (x : Str) (n : Nat) : (⟨(List.replicate n x.cps).foldl (· ++ ·) #[]⟩ : Str) = repS x n := by
  unfold repS
  congr 1
  have f0 : ∀ (m : Nat) (acc : Array Nat), List.foldl (fun x1 x2 => x1 ++ x2) acc (List.replicate m x.cps) = acc ++ (List.replicate m x.cps.toList).flatten.toArray := by
    intro m
    induction m with
    | zero => intro acc; simp
    | succ m ih =>
      intro acc
      rw [List.replicate_succ, List.foldl_cons, ih, List.replicate_succ, List.flatten_cons]
      apply Array.ext'
      simp
  rw [f0]
  simp
theorem len_rep {α : Type} (xs : List α) : ∀ n : Nat, (List.replicate n xs).flatten.length = xs.length * n
  | 0 => by simp
  | n + 1 => by rw [List.replicate_succ, List.flatten_cons, List.length_append, len_rep xs n, Nat.mul_succ, Nat.add_comm]
theorem repS_len (z : Str) (n : Nat) : (repS z n).length = z.length * n := by
  show (List.replicate n z.cps.toList).flatten.toArray.size = z.cps.size * n
  rw [List.size_toArray, len_rep, Array.length_toList]
theorem op_repS : OpR X (binaryOp .Mult) (fun x y H Q => ∃ z n, x = .str z ∧ y = .int n ∧ 2 ≤ n ∧ n ≤ 1000000 ∧ 1 ≤ z.length ∧ z.length * n.toNat ≤ sizeLine ∧ Q (.str (repS z n.toNat)) H) := by
  intro pins s σ H x y v u Q I rx ry h
  obtain ⟨z, n, rfl, rfl, h1, h2, h3, h4, q⟩ := h
  obtain ⟨t, rfl⟩ := rx
  obtain ⟨t', rfl⟩ := ry
  have n1 : (n == 1 || z.length == 0) = false := by
    rw [Bool.or_eq_false_iff]
    exact ⟨by simp; omega, by simp; omega⟩
  have hs := sizeLine_eq
  refine PySem.P.mul_str ?_ (fun _ _ => ?_) (fun _ _ => ?_) ?_
  · simp only [Bool.or_eq_false_iff, decide_eq_false_iff_not]
    omega
  · have hz : z.length ≤ 16777216 := by
      have : z.length * 1 ≤ z.length * n.toNat := Nat.mul_le_mul_left _ (by omega)
      omega
    have : (16777216 : Int) ≤ (2 ^ 63 - 1) / n := by
      rw [Int.le_ediv_iff_mul_le (by omega)]
      omega
    omega
  · exact decide_eq_false (by omega)
  · rw [if_neg (by omega), if_neg (by rw [n1]; decide), repS_eq]
    exact ⟨by rw [repS_len]; exact h4, ⟨.str _, H, I.tok _, ⟨_, rfl⟩, q⟩⟩

theorem op_rep1 : OpR X (binaryOp .Mult) (fun x y H Q => ∃ z, x = .str z ∧ y = .int 1 ∧ z.length ≤ sizeLine ∧ Q (.str z) H) := by
  intro pins s σ H x y v u Q I rx ry h
  obtain ⟨z, rfl, rfl, h1, q⟩ := h
  obtain ⟨t, rfl⟩ := rx
  obtain ⟨t', rfl⟩ := ry
  refine PySem.P.mul_str (by decide) (fun _ h => ?_) (fun _ h => ?_) ?_
  · simp at h
  · simp at h
  · rw [if_neg (by omega), if_pos (by simp)]
    exact ⟨.str z, H, I, ⟨t, rfl⟩, q⟩
theorem opMul : OpR X (binaryOp .Mult) (rD X.K dMul) := by
  intro pins s σ H x y v u Q I rx ry ⟨d, e, z, hd, he, hz, k⟩
  unfold dMul at hz
  split at hz
  · split at hz
    · rename_i hc
      cases hz
      obtain rfl := hd.intv
      obtain rfl := he.intv
      exact op_mulW pins s σ H _ _ _ _ Q I rx ry ⟨_, _, rfl, rfl, hc, k _ _ (Same.refl H) (.int _)⟩
    · cases hz
  · split at hz
    · rename_i hc
      obtain ⟨hl, rfl⟩ := fits_some hz
      obtain rfl := hd.strv
      obtain rfl := he.intv
      exact op_repS pins s σ H _ _ _ _ Q I rx ry ⟨_, _, rfl, rfl, hc.1, hc.2.1, hc.2.2, hl, k _ _ (Same.refl H) (.str _)⟩
    · split at hz
      · rename_i hc
        obtain ⟨h1, h2⟩ := hc
        subst h1
        cases hz
        obtain rfl := hd.strv
        obtain rfl := he.intv
        exact op_rep1 pins s σ H _ _ _ _ Q I rx ry ⟨_, rfl, rfl, h2, k _ _ (Same.refl H) (.str _)⟩
      · cases hz
  · split at hz
    · rename_i hc
      obtain ⟨hl, rfl⟩ := fits_some hz
      obtain ⟨a, xs, rfl, h1, r1⟩ := hd.lstv
      obtain rfl := he.intv
      exact thn (op_repF pins s σ H _ _ _ _ (fun v H' => ∃ p, v = .ref p ∧ H p = none ∧ Same H H' ∧ OwnAt X.K H' p (.lst _)) I rx ry ⟨a, _, xs, rfl, rfl, h1.sq, by omega, by omega, by rw [r1.len]; exact hl, fun p hp => ⟨p, rfl, hp, same_new hp, _, upd_same, (r1.rep _).kp (.same (same_new hp))⟩⟩) fun _ _ q => ep_fz q k
    · cases hz
  · split at hz
    · rename_i hc
      cases hz
      obtain ⟨a, xs, rfl, h1, r1⟩ := hd.tupv
      obtain rfl := he.intv
      exact op_repT pins s σ H _ _ _ _ Q I rx ry ⟨a, _, xs, rfl, rfl, h1, fun e => hc.1 (by subst e; cases r1; rfl), hc.2.1, hc.2.2.1, by rw [r1.len]; exact hc.2.2.2, fun p hp => k _ _ (same_new hp) (.tup (.of upd_same) ((r1.rep _).kp (.same (same_new hp))))⟩
    · cases hz
  · cases hz
end
end Dt

/-! Dt3: comparisons, in, items, slices, built-in calls, by data. -/
namespace Dt
open PySem PySem.Spec L2
open PyProof.Rows hiding St
open PySem.W (alike alikeAll dataLt)
section
variable {X : Cx}
theorem _root_.Dt.Rep.reads {pins : List (Addr × Obj)} {σ : St} {H : Hp} {s : Shared} {v : V} {u : Value} {d : D} (h : Rep X.K H v d) (I : Inv X pins σ H s) (n : d.plain = true) (r : RelV v u) : ∃ as, Reads s.heap u d as := Dp.reads I d v u (h.dp n) r
/-! ### == != -/
def cmpOk (d e : D) : Bool := d.plain && e.plain && decide (min d.depth e.depth ≤ 60)
theorem cmpOk_of {d e : D} (h : cmpOk d e = true) : d.plain = true ∧ e.plain = true ∧ min d.depth e.depth ≤ 60 := by
  unfold cmpOk at h
  simp only [Bool.and_eq_true, decide_eq_true_eq] at h
  exact ⟨h.1.1, h.1.2, h.2⟩
def dEq : D → D → Option D
  | .int i, .int j => some (.bool (i == j))
  | .str x, .str y => some (.bool (x == y))
  | d, e => if cmpOk d e = true then some (.bool (PyData.eqv d e)) else none
def dNe : D → D → Option D
  | .int i, .int j => some (.bool (!(i == j)))
  | .str x, .str y => some (.bool (!(x == y)))
  | d, e => if cmpOk d e = true then some (.bool (!PyData.eqv d e)) else none
theorem dEq_some {d e z : D} (h : dEq d e = some z) : cmpOk d e = true ∧ z = .bool (PyData.eqv d e) := by
  unfold dEq at h
  split at h
  · cases h; exact ⟨by simp [cmpOk, PyData.plain, PyData.depth], by simp [PyData.eqv]⟩
  · cases h; exact ⟨by simp [cmpOk, PyData.plain, PyData.depth], by simp [PyData.eqv]⟩
  · split at h
    · rename_i hc; cases h; exact ⟨hc, rfl⟩
    · cases h
theorem dNe_some {d e z : D} (h : dNe d e = some z) : cmpOk d e = true ∧ z = .bool (!PyData.eqv d e) := by
  unfold dNe at h
  split at h
  · cases h; exact ⟨by simp [cmpOk, PyData.plain, PyData.depth], by simp [PyData.eqv]⟩
  · cases h; exact ⟨by simp [cmpOk, PyData.plain, PyData.depth], by simp [PyData.eqv]⟩
  · split at h
    · rename_i hc; cases h; exact ⟨hc, rfl⟩
    · cases h
theorem opEq (hu : X.A.units + 64 < cLine) : OpR X (compareOp .Eq) (rD X.K dEq) := by
  intro pins s σ H x y v u Q I rx ry ⟨d, e, z, hd, he, hz, k⟩
  obtain ⟨hc, rfl⟩ := dEq_some hz
  obtain ⟨h1, h2, h3⟩ := cmpOk_of hc
  obtain ⟨as, r1⟩ := hd.reads I h1 rx
  obtain ⟨bs, r2⟩ := he.reads I h2 ry
  exact SeqAt.eq_plain r1 r2 h1 h2 (by omega) ⟨.bl _, H, I, rfl, k _ _ (Same.refl H) (.bl _)⟩
theorem opNe (hu : X.A.units + 64 < cLine) : OpR X (compareOp .NotEq) (rD X.K dNe) := by
  intro pins s σ H x y v u Q I rx ry ⟨d, e, z, hd, he, hz, k⟩
  obtain ⟨hc, rfl⟩ := dNe_some hz
  obtain ⟨h1, h2, h3⟩ := cmpOk_of hc
  obtain ⟨as, r1⟩ := hd.reads I h1 rx
  obtain ⟨bs, r2⟩ := he.reads I h2 ry
  exact SeqAt.ne_plain r1 r2 h1 h2 (by omega) ⟨.bl _, H, I, rfl, k _ _ (Same.refl H) (.bl _)⟩
/-! ### < <= > >= -/
def ordOk (d e : D) : Bool := d.plain && e.plain && alike d e && decide (min d.depth e.depth ≤ 60) && (match d with | .none => false | _ => true)
theorem ordOk_of {d e : D} (h : ordOk d e = true) : d.plain = true ∧ e.plain = true ∧ alike d e = true ∧ min d.depth e.depth ≤ 60 ∧ d ≠ .none := by
  unfold ordOk at h
  simp only [Bool.and_eq_true, decide_eq_true_eq] at h
  exact ⟨h.1.1.1.1, h.1.1.1.2, h.1.1.2, h.1.2, fun e => by have := h.2; rw [e] at this; cases this⟩
def dLt : D → D → Option D
  | .int i, .int j => some (.bool (decide (i < j)))
  | .str x, .str y => some (.bool (decide (x.cps.toList < y.cps.toList)))
  | d, e => if ordOk d e = true then some (.bool (dataLt d e)) else none
def dLe : D → D → Option D
  | .int i, .int j => some (.bool (decide (i ≤ j)))
  | .str x, .str y => some (.bool (!decide (y.cps.toList < x.cps.toList)))
  | d, e => if ordOk d e = true then some (.bool (!dataLt e d)) else none
def dGt : D → D → Option D
  | .int i, .int j => some (.bool (decide (j < i)))
  | .str x, .str y => some (.bool (decide (y.cps.toList < x.cps.toList)))
  | d, e => if ordOk d e = true then some (.bool (dataLt e d)) else none
def dGe : D → D → Option D
  | .int i, .int j => some (.bool (decide (j ≤ i)))
  | d, e => if ordOk d e = true then some (.bool (!dataLt d e)) else none
theorem opLt (hu : X.A.units + 64 < cLine) : OpR X (compareOp .Lt) (rD X.K dLt) := by
  intro pins s σ H x y v u Q I rx ry ⟨d, e, z, hd, he, hz, k⟩
  unfold dLt at hz
  split at hz
  · cases hz
    obtain rfl := hd.intv
    obtain rfl := he.intv
    exact op_lt pins s σ H _ _ _ _ Q I rx ry ⟨_, _, rfl, rfl, k _ _ (Same.refl H) (.bl _)⟩
  · cases hz
    obtain rfl := hd.strv
    obtain rfl := he.strv
    exact op_lt_str pins s σ H _ _ _ _ Q I rx ry ⟨_, _, rfl, rfl, k _ _ (Same.refl H) (.bl _)⟩
  · split at hz
    · rename_i hc
      cases hz
      obtain ⟨h1, h2, h3, h4, h5⟩ := ordOk_of hc
      obtain ⟨as, r1⟩ := hd.reads I h1 rx
      obtain ⟨bs, r2⟩ := he.reads I h2 ry
      exact PySem.W.rcLt_alike d e X.A s v u as bs r1 r2 h3 h5 (by omega) _ _ _ _ ⟨.bl _, H, I, rfl, k _ _ (Same.refl H) (.bl _)⟩
    · cases hz
theorem opLe (hu : X.A.units + 64 < cLine) : OpR X (compareOp .LtE) (rD X.K dLe) := by
  intro pins s σ H x y v u Q I rx ry ⟨d, e, z, hd, he, hz, k⟩
  unfold dLe at hz
  split at hz
  · cases hz
    obtain rfl := hd.intv
    obtain rfl := he.intv
    exact op_le pins s σ H _ _ _ _ Q I rx ry ⟨_, _, rfl, rfl, k _ _ (Same.refl H) (.bl _)⟩
  · cases hz
    obtain rfl := hd.strv
    obtain rfl := he.strv
    exact op_le_str pins s σ H _ _ _ _ Q I rx ry ⟨_, _, rfl, rfl, k _ _ (Same.refl H) (.bl _)⟩
  · split at hz
    · rename_i hc
      cases hz
      obtain ⟨h1, h2, h3, h4, h5⟩ := ordOk_of hc
      obtain ⟨as, r1⟩ := hd.reads I h1 rx
      obtain ⟨bs, r2⟩ := he.reads I h2 ry
      exact PySem.W.rcLe_alike d e X.A s v u as bs r1 r2 h3 h5 (by omega) _ _ _ _ ⟨.bl _, H, I, rfl, k _ _ (Same.refl H) (.bl _)⟩
    · cases hz
theorem opGt (hu : X.A.units + 64 < cLine) : OpR X (compareOp .Gt) (rD X.K dGt) := by
  intro pins s σ H x y v u Q I rx ry ⟨d, e, z, hd, he, hz, k⟩
  unfold dGt at hz
  split at hz
  · cases hz
    obtain rfl := hd.intv
    obtain rfl := he.intv
    exact op_gt pins s σ H _ _ _ _ Q I rx ry ⟨_, _, rfl, rfl, k _ _ (Same.refl H) (.bl _)⟩
  · cases hz
    obtain rfl := hd.strv
    obtain rfl := he.strv
    exact op_gt_str pins s σ H _ _ _ _ Q I rx ry ⟨_, _, rfl, rfl, k _ _ (Same.refl H) (.bl _)⟩
  · split at hz
    · rename_i hc
      cases hz
      obtain ⟨h1, h2, h3, h4, h5⟩ := ordOk_of hc
      obtain ⟨as, r1⟩ := hd.reads I h1 rx
      obtain ⟨bs, r2⟩ := he.reads I h2 ry
      exact PySem.W.rcGt_alike d e X.A s v u as bs r1 r2 h3 h5 (by omega) _ _ _ _ ⟨.bl _, H, I, rfl, k _ _ (Same.refl H) (.bl _)⟩
    · cases hz
theorem opGe (hu : X.A.units + 64 < cLine) : OpR X (compareOp .GtE) (rD X.K dGe) := by
  intro pins s σ H x y v u Q I rx ry ⟨d, e, z, hd, he, hz, k⟩
  unfold dGe at hz
  split at hz
  · cases hz
    obtain rfl := hd.intv
    obtain rfl := he.intv
    exact op_ge pins s σ H _ _ _ _ Q I rx ry ⟨_, _, rfl, rfl, k _ _ (Same.refl H) (.bl _)⟩
  · split at hz
    · rename_i hc
      cases hz
      obtain ⟨h1, h2, h3, h4, h5⟩ := ordOk_of hc
      obtain ⟨as, r1⟩ := hd.reads I h1 rx
      obtain ⟨bs, r2⟩ := he.reads I h2 ry
      exact PySem.W.rcGe_alike d e X.A s v u as bs r1 r2 h3 h5 (by omega) _ _ _ _ ⟨.bl _, H, I, rfl, k _ _ (Same.refl H) (.bl _)⟩
    · cases hz
/-! ### is None -/
def isNn : D → Bool
  | .none => true
  | _ => false
def dIsN (d e : D) : Option D := match e with
  | .none => some (.bool (isNn d))
  | _ => none
def dNotN (d e : D) : Option D := match e with
  | .none => some (.bool (!isNn d))
  | _ => none
theorem isN_of {K : Fg} {H : Hp} {v : V} {d : D} (h : Rep K H v d) : decide (v = .non) = isNn d := by
  cases h <;> simp [isNn]
theorem opIsN : OpR X (compareOp .Is) (rD X.K dIsN) := by
  intro pins s σ H x y v u Q I rx ry ⟨d, e, z, hd, he, hz, k⟩
  unfold dIsN at hz
  split at hz
  · cases hz
    obtain rfl := he.nonv
    exact op_isN pins s σ H _ _ _ _ Q I rx ry ⟨rfl, k _ _ (Same.refl H) (by rw [isN_of hd]; exact .bl _)⟩
  · cases hz
theorem opNotN : OpR X (compareOp .IsNot) (rD X.K dNotN) := by
  intro pins s σ H x y v u Q I rx ry ⟨d, e, z, hd, he, hz, k⟩
  unfold dNotN at hz
  split at hz
  · cases hz
    obtain rfl := he.nonv
    refine op_notN pins s σ H _ _ _ _ Q I rx ry ⟨rfl, k _ _ (Same.refl H) ?_⟩
    rw [isN_of hd]
    exact .bl _
  · cases hz
/-! ### in -/
def inB (d : D) : D → Option Bool
  | .list ds => if d.plain = true ∧ PyData.plainAll ds = true ∧ min (PyData.depthAll ds) d.depth ≤ 60 then some (ds.any fun y => PyData.eqv y d) else none
  | .tuple ds => if d.plain = true ∧ PyData.plainAll ds = true ∧ min (PyData.depthAll ds) d.depth ≤ 60 then some (ds.any fun y => PyData.eqv y d) else none
  | .str z => match d with
    | .str x => match x.cps.toList with
      | [c] => some (decide (c ∈ z.cps.toList))
      | _ => none
    | _ => none
  | _ => none
def dIn (d e : D) : Option D := (inB d e).map .bool
def dNin (d e : D) : Option D := (inB d e).map fun b => .bool (!b)
theorem str_one {x : Str} {c : Nat} (h : x.cps.toList = [c]) : x = ⟨#[c]⟩ := by
  obtain ⟨a⟩ := x
  congr 1
  exact Array.ext' h
theorem opIn (hu : X.A.units + 64 < cLine) : OpR X (compareOp .In) (rD X.K dIn) := by
  intro pins s σ H x y v u Q I rx ry ⟨d, e, z, hd, he, hz, k⟩
  obtain ⟨b, hb, rfl⟩ := Option.map_eq_some_iff.mp hz
  unfold inB at hb
  split at hb
  · split at hb
    · rename_i ds hc
      cases hb
      obtain ⟨as, r1⟩ := hd.reads I hc.1 rx
      obtain ⟨bs, r2⟩ := he.reads I (by rw [PyData.plain]; exact hc.2.1) ry
      exact SeqAt.in_list_data r2 r1 hc.2.1 hc.1 (by omega) ⟨.bl _, H, I, rfl, k _ _ (Same.refl H) (.bl _)⟩
    · cases hb
  · split at hb
    · rename_i ds hc
      cases hb
      obtain ⟨as, r1⟩ := hd.reads I hc.1 rx
      obtain ⟨bs, r2⟩ := he.reads I (by rw [PyData.plain]; exact hc.2.1) ry
      exact SeqAt.in_tuple_data r2 r1 hc.2.1 hc.1 (by omega) ⟨.bl _, H, I, rfl, k _ _ (Same.refl H) (.bl _)⟩
    · cases hb
  · split at hb
    · split at hb
      · rename_i h1
        cases hb
        obtain rfl := hd.strv
        obtain rfl := he.strv
        exact op_in_sign pins s σ H _ _ _ _ Q I rx ry ⟨_, _, by rw [str_one h1], rfl, k _ _ (Same.refl H) (.bl _)⟩
      · cases hb
    · cases hb
  · cases hb
theorem opNin (hu : X.A.units + 64 < cLine) : OpR X (compareOp .NotIn) (rD X.K dNin) := by
  intro pins s σ H x y v u Q I rx ry ⟨d, e, z, hd, he, hz, k⟩
  obtain ⟨b, hb, rfl⟩ := Option.map_eq_some_iff.mp hz
  unfold inB at hb
  split at hb
  · split at hb
    · rename_i ds hc
      cases hb
      obtain ⟨as, r1⟩ := hd.reads I hc.1 rx
      obtain ⟨bs, r2⟩ := he.reads I (by rw [PyData.plain]; exact hc.2.1) ry
      exact SeqAt.notIn_list_data r2 r1 hc.2.1 hc.1 (by omega) ⟨.bl _, H, I, rfl, k _ _ (Same.refl H) (.bl _)⟩
    · cases hb
  · split at hb
    · rename_i ds hc
      cases hb
      obtain ⟨as, r1⟩ := hd.reads I hc.1 rx
      obtain ⟨bs, r2⟩ := he.reads I (by rw [PyData.plain]; exact hc.2.1) ry
      exact SeqAt.notIn_tuple_data r2 r1 hc.2.1 hc.1 (by omega) ⟨.bl _, H, I, rfl, k _ _ (Same.refl H) (.bl _)⟩
    · cases hb
  · split at hb
    · split at hb
      · rename_i h1
        cases hb
        obtain rfl := hd.strv
        obtain rfl := he.strv
        exact op_notIn_sign pins s σ H _ _ _ _ Q I rx ry ⟨_, _, by rw [str_one h1], rfl, k _ _ (Same.refl H) (.bl _)⟩
      · cases hb
    · cases hb
  · cases hb
/-! ### items, slices -/
def dIx : D → D → Option D
  | .list ds, .int i => atI ds i
  | .tuple ds, .int i => atI ds i
  | .str z, .int i => if z.length ≤ sizeLine then (atI z.cps.toList i).map fun c => .str ⟨#[c]⟩ else none
  | _, _ => none
theorem RepAll.atI {K : Fg} {H : Hp} {vs : List V} {ds : List D} {i : Int} {d : D} (h : RepAll K H vs ds) (e : L2.atI ds i = some d) : ∃ v, L2.atI vs i = some v ∧ Rep K H v d := by
  unfold L2.atI at *
  rw [h.len]
  cases hj : ixN ds.length i with
  | none => rw [hj] at e; cases e
  | some j =>
    rw [hj] at e
    obtain ⟨v, h1, h2⟩ := h.get (i := j) (d := d) e
    exact ⟨v, h1, h2⟩
theorem ixD : IxR X (rD X.K dIx) := by
  intro a b pins s σ H x y v u Q I rx ry ⟨d, e, z, hd, he, hz, k⟩ hs
  unfold dIx at hz
  split at hz
  · obtain ⟨p, xs, rfl, h1, r1⟩ := hd.lstv
    obtain rfl := he.intv
    obtain ⟨w, e1, r2⟩ := r1.atI hz
    exact ix_list a b pins s σ H _ _ v u Q I rx ry ⟨p, xs, _, w, rfl, rfl, h1.sq, e1, k _ _ (Same.refl H) r2⟩ hs
  · obtain ⟨p, xs, rfl, h1, r1⟩ := hd.tupv
    obtain rfl := he.intv
    obtain ⟨w, e1, r2⟩ := r1.atI hz
    exact ix_tup a b pins s σ H _ _ v u Q I rx ry ⟨p, xs, _, w, rfl, rfl, h1, e1, k _ _ (Same.refl H) r2⟩ hs
  · split at hz
    · rename_i hl
      obtain ⟨c, hc, rfl⟩ := Option.map_eq_some_iff.mp hz
      obtain rfl := hd.strv
      obtain rfl := he.intv
      exact ix_str a b pins s σ H _ _ v u Q I rx ry ⟨_, _, c, rfl, rfl, hl, hc, k _ _ (Same.refl H) (.str _)⟩ hs
    · cases hz
  · cases hz
def cutD (xs : List D) (lo hi : Option Int) : List D := (xs.drop (HT.sIx xs.length 0 lo)).take (HT.sIx xs.length xs.length hi - HT.sIx xs.length 0 lo)
def dSl (d : D) (lo hi : Option Int) : Option D := match d with
  | .list ds => some (.list (cutD ds lo hi))
  | .tuple ds => some (.tuple (cutD ds lo hi))
  | .str z => if z.length ≤ sizeLine then some (.str (cutS z lo hi)) else none
  | _ => none
theorem RepAll.cut {K : Fg} {H : Hp} {vs : List V} {ds : List D} (h : RepAll K H vs ds) (lo hi : Option Int) : RepAll K H (cutV vs lo hi) (cutD ds lo hi) := by
  unfold cutV cutD
  rw [h.len]
  exact (h.drop _).take _
def sD (K : Fg) (g : D → Option Int → Option Int → Option D) : V → Option Int → Option Int → Hp → VK → Prop := fun x lo hi H Q => ∃ d z, Rep K H x d ∧ g d lo hi = some z ∧ ∀ v H', Same H H' → Rep K H' v z → Q v H'
theorem slD : SlR X (sD X.K dSl) := by
  intro pins s σ H x v vl vu lo hi sl Q I rx hsl pl pu ⟨d, z, hd, hz, k⟩
  unfold dSl at hz
  split at hz
  · cases hz
    obtain ⟨a, xs, rfl, h1, r1⟩ := hd.lstv
    obtain ⟨T, id, h1, h2, h3⟩ := sl_list pins s σ H _ v vl vu lo hi sl (fun v H' => ∃ p, v = .ref p ∧ H p = none ∧ Same H H' ∧ OwnAt X.K H' p (.lst _)) I rx hsl pl pu ⟨a, xs, rfl, h1.sq, fun p hp => ⟨p, rfl, hp, same_new hp, _, upd_same, (r1.cut lo hi).kp (.same (same_new hp))⟩⟩
    exact ⟨T, id, h1, h2, thn h3 fun _ _ q => ep_fz q k⟩
  · rename_i ds
    cases hz
    obtain ⟨a, xs, rfl, h1, r1⟩ := hd.tupv
    refine sl_tupA pins s σ H _ v vl vu lo hi sl Q I rx hsl pl pu ⟨a, xs, rfl, h1, fun e => ?_, fun e p hp => k _ _ (same_new hp) (.tup (.of upd_same) ((r1.cut lo hi).kp (.same (same_new hp))))⟩
    have e2 : cutD ds lo hi = ds := by
      unfold cutD
      rw [← r1.len, e.1, e.2]
      simp only [List.drop_zero, Nat.sub_zero]
      exact List.take_of_length_le (Nat.le_of_eq r1.len.symm)
    rw [e2] at k
    exact k _ _ (Same.refl H) hd
  · split at hz
    · rename_i hl
      cases hz
      obtain rfl := hd.strv
      exact sl_str pins s σ H _ v vl vu lo hi sl Q I rx hsl pl pu ⟨_, rfl, hl, k _ _ (Same.refl H) (.str _)⟩
    · cases hz
  · cases hz
end
end Dt

/-! Dt4: statements, loops, the call of a def. -/
namespace Dt
open PySem PySem.Spec L2
open PyProof.Rows hiding St
section
variable {X : Cx}
/-! ### blocks, if, return -/
def sNil : FS := fun ss => .nx ss
def Out.then (r : Out) (g : SS → Out) : Out := match r with
  | .nx ss => g ss
  | r => r
def sSeq (a b : FS) : FS := fun ss => (a ss).then b
/-- what is wanted at an end -/
def Post (K : Fg) (fx : Fx) (E : Ends) (H : Hp) : Out → Prop
  | .no => False
  | .nx ss' => ∀ σ' H', Kp H H' → FR K fx ss' σ' H' → E.nx σ' H'
  | .rt r ss' => ∀ v σ' H', Kp H H' → FR K fx ss' σ' H' → RetR K fx ss' σ' H' v r → E.rt v H'
  | .bk ss' => ∀ σ' H', Kp H H' → FR K fx ss' σ' H' → E.bk σ' H'
  | .ct ss' => ∀ σ' H', Kp H H' → FR K fx ss' σ' H' → E.ct σ' H'
theorem tS_iff {K : Fg} {f : FS} {E : Ends} {σ : St} {H : Hp} : tS K f E σ H ↔ ∃ fx ss, FR K fx ss σ H ∧ Post K fx E H (f ss) := by
  constructor
  · rintro ⟨fx, ss, a, b⟩
    refine ⟨fx, ss, a, ?_⟩
    cases e : f ss <;> rw [e] at b <;> exact b
  · rintro ⟨fx, ss, a, b⟩
    refine ⟨fx, ss, a, ?_⟩
    cases e : f ss <;> rw [e] at b <;> exact b
theorem Post.kp {K : Fg} {fx : Fx} {E : Ends} {H H' : Hp} {o : Out} (k : Kp H H') (h : Post K fx E H o) : Post K fx E H' o := by
  cases o with
  | no => exact h
  | nx ss => exact fun σ' H2 k2 f => h σ' H2 (k.trans k2) f
  | rt r ss => exact fun v σ' H2 k2 f => h v σ' H2 (k.trans k2) f
  | bk ss => exact fun σ' H2 k2 f => h σ' H2 (k.trans k2) f
  | ct ss => exact fun σ' H2 k2 f => h σ' H2 (k.trans k2) f
theorem bn : PSs X [] (tS X.K sNil) := by
  refine pss_nil.imp fun E σ H q => ?_
  obtain ⟨fx, ss, f, k⟩ := q
  exact k σ H (Kp.refl H) f
variable {st : Stmt} {rest : List Stmt} {fa fb : FS}
theorem bc (h1 : PS X st (tS X.K fa)) (h2 : PSs X rest (tS X.K fb)) : PSs X (st :: rest) (tS X.K (sSeq fa fb)) := by
  refine (pss_cons h1 h2).imp fun E σ H q => ?_
  obtain ⟨fx, ss, f, k⟩ := tS_iff.mp q
  refine tS_iff.mpr ⟨fx, ss, f, ?_⟩
  unfold sSeq Out.then at k
  cases e : fa ss with
  | no => rw [e] at k; exact k
  | nx s1 => rw [e] at k; exact fun σ' H' k1 f1 => tS_iff.mpr ⟨fx, s1, f1, k.kp k1⟩
  | rt r s1 => rw [e] at k; exact k
  | bk s1 => rw [e] at k; exact k
  | ct s1 => rw [e] at k; exact k
theorem b1 (h1 : PS X st (tS X.K fa)) : PSs X [st] (tS X.K fa) := pss_one h1
variable {a b c : Expr} {pos : Pos} {f g : FE} {fn : FN} {fc : FB}
def sIf (c : FB) (a b : FS) : FS := fun ss => match c ss with
  | .ok x s1 => if x = true then a s1 else b s1
  | .no => .no
theorem sif {u w : List Stmt} (hc : PT X c (tT X.K fc)) (ha : PSs X u (tS X.K fa)) (hb : PSs X w (tS X.K fb)) : PS X (.If c u w pos) (tS X.K (sIf fc fa fb)) := by
  refine (ps_if hc ha hb).imp fun E σ H q => ?_
  obtain ⟨fx, ss, f, k⟩ := tS_iff.mp q
  unfold sIf at k
  cases e : fc ss with
  | no => rw [e] at k; exact k.elim
  | ok x s1 =>
    rw [e] at k
    refine ⟨fx, ss, x, s1, f, e, fun H1 k1 f1 => ?_⟩
    show if x = true then _ else _
    by_cases hx : x = true
    · rw [if_pos hx]
      simp only [if_pos hx] at k
      exact tS_iff.mpr ⟨fx, s1, f1, k.kp k1⟩
    · rw [if_neg hx]
      simp only [if_neg hx] at k
      exact tS_iff.mpr ⟨fx, s1, f1, k.kp k1⟩
def sRet (f : FE) : FS := fun ss => match f ss with
  | .ok d s1 => .rt (.imm d) s1
  | .no => .no
def sRetN (f : FN) : FS := fun ss => match f ss with
  | .ok d s1 => .rt (.own d) s1
  | .no => .no
theorem sret (h : PE X a (tD X.K f)) : PS X (.Return (some a) pos) (tS X.K (sRet f)) := by
  refine (ps_ret h).imp fun E σ H q => ?_
  obtain ⟨fx, ss, fr, k⟩ := tS_iff.mp q
  unfold sRet at k
  cases e : f ss with
  | no => rw [e] at k; exact k.elim
  | ok d s1 => rw [e] at k; exact ⟨fx, ss, d, s1, fr, e, fun v H' k1 f1 r => k v σ H' k1 f1 r⟩
theorem sretN (h : PE X a (tN X.K fn)) : PS X (.Return (some a) pos) (tS X.K (sRetN fn)) := by
  refine (ps_ret h).imp fun E σ H q => ?_
  obtain ⟨fx, ss, fr, k⟩ := tS_iff.mp q
  unfold sRetN at k
  cases e : fn ss with
  | no => rw [e] at k; exact k.elim
  | ok d s1 => rw [e] at k; exact ⟨fx, ss, d, s1, fr, e, fun p H' k1 f1 r n => k _ σ H' k1 f1 ⟨p, rfl, r, n⟩⟩
def sRet0 : FS := fun ss => .rt (.imm .none) ss
theorem sret0 : PS X (.Return none pos) (tS X.K sRet0) := by
  refine ps_retN.imp fun E σ H q => ?_
  obtain ⟨fx, ss, fr, k⟩ := q
  exact k _ σ H (Kp.refl H) fr .non
def sExpr (f : FE) : FS := fun ss => match f ss with
  | .ok _ s1 => .nx s1
  | .no => .no
theorem sexpr (h : PE X a (tD X.K f)) (hs : swapsWith a none pos.line X.env = pure false := by rfl) : PS X (.Expr a pos) (tS X.K (sExpr f)) := by
  refine (ps_expr h hs).imp fun E σ H q => ?_
  obtain ⟨fx, ss, fr, k⟩ := tS_iff.mp q
  unfold sExpr at k
  cases e : f ss with
  | no => rw [e] at k; exact k.elim
  | ok d s1 => rw [e] at k; exact ⟨fx, ss, d, s1, fr, e, fun v H' k1 f1 r => k σ H' k1 f1⟩
def sBk : FS := fun ss => .bk ss
def sCt : FS := fun ss => .ct ss
theorem sbk : PS X (.Break pos) (tS X.K sBk) := ps_break.imp fun E σ H ⟨fx, ss, fr, k⟩ => k σ H (Kp.refl H) fr
theorem sct : PS X (.Continue pos) (tS X.K sCt) := ps_continue.imp fun E σ H ⟨fx, ss, fr, k⟩ => k σ H (Kp.refl H) fr
theorem spass : PS X (.Pass pos) (tS X.K sNil) := ps_pass.imp fun E σ H ⟨fx, ss, fr, k⟩ => k σ H (Kp.refl H) fr
/-! ### stores -/
abbrev GF := D → SS → Option SS
/-- a target whose stores touch the slots vs alone -/
def gD (K : Fg) (g : GF) (vs : List Nat) : TG := fun v σ H Q => ∃ fx ss d ss', FR K fx ss σ H ∧ Rep K H v d ∧ g d ss = some ss' ∧ ∀ σ' H', wipe σ' vs = wipe σ vs → Kp H H' → FR K fx ss' σ' H' → Q σ' H'
theorem wipe_get (σ : St) : ∀ (vs : List Nat) (i : Nat), (wipe σ vs)[i]? = if i ∈ vs then (if i < σ.length then some none else none) else σ[i]?
  | [], i => by simp [wipe]
  | v :: vs, i => by
    unfold wipe
    by_cases h : i = v
    · subst h
      rw [List.getElem?_set, if_pos rfl, wipe_length, if_pos List.mem_cons_self]
    · rw [List.getElem?_set_ne (Ne.symm h), wipe_get σ vs i]
      by_cases h2 : i ∈ vs
      · rw [if_pos h2, if_pos (List.mem_cons_of_mem _ h2)]
      · rw [if_neg h2, if_neg (by simp [h, h2])]
theorem wipe_set {σ : St} {vs : List Nat} {i : Nat} {x : Option V} (h : i ∈ vs) : wipe (σ.set i x) vs = wipe σ vs := by
  apply List.ext_getElem?
  intro j
  rw [wipe_get, wipe_get, List.length_set]
  by_cases hj : j ∈ vs
  · rw [if_pos hj, if_pos hj]
  · rw [if_neg hj, if_neg hj, List.getElem?_set_ne (fun e : i = j => hj (by rw [← e]; exact h))]
def gN (i : Nat) : GF := fun d ss => if i < ss.length then some (ss.set i (.imm d)) else none
theorem gn (i : Nat) {vs : List Nat} {x : Str} (hN : X.N.Nodup) (hv : i ∈ vs := by decide) (hi : X.N[i]? = some x := by rfl) (hx : Loc X.env.scope x := by first | exact Or.inl rfl | exact Or.inr rfl) (hf : X.fn x = true ∨ X.env.scope.names.lookup x = some .local := by first | exact .inl rfl | exact .inr rfl | assumption) :
    PG X (.Name x pos) (gD X.K (gN i) vs) := by
  refine ⟨fun pins s σ H v u Q I r q => (pg_name (pos := pos) hN hi hx hf).run pins s σ H v u Q I r ?_⟩
  obtain ⟨fx, ss, d, ss', fr, rp, e, k⟩ := q
  unfold gN at e
  split at e
  · rename_i hl
    cases e
    exact k _ _ (wipe_set hv) (Kp.refl H) (fr.imm hl rp)
  · cases e
/-- several targets, from the left -/
def gsD (K : Fg) (g : List D → SS → Option SS) (ws : List Nat) : TGs := fun vs σ H Q => ∃ fx ss ds ss', FR K fx ss σ H ∧ RepAll K H vs ds ∧ g ds ss = some ss' ∧ ∀ σ' H', wipe σ' ws = wipe σ ws → Kp H H' → FR K fx ss' σ' H' → Q σ' H'
def gNil : List D → SS → Option SS := fun ds ss => match ds with
  | [] => some ss
  | _ => none
def gCons (g : GF) (h : List D → SS → Option SS) : List D → SS → Option SS := fun ds ss => match ds with
  | d :: r => (g d ss).bind (h r)
  | [] => none
variable {ws : List Nat}
theorem gsn : PGs X [] (gsD X.K gNil ws) := by
  refine ⟨fun pins s σ H vs us Q I r q => pgs_nil.run pins s σ H vs us Q I r ?_⟩
  obtain ⟨fx, ss, ds, ss', fr, rp, e, k⟩ := q
  cases ds with
  | nil => cases rp; cases e; exact ⟨rfl, k _ _ rfl (Kp.refl H) fr⟩
  | cons d r => cases e
theorem gsc {e : Expr} {es : List Expr} {g : GF} {h : List D → SS → Option SS} (h1 : PG X e (gD X.K g ws)) (h2 : PGs X es (gsD X.K h ws)) (hs : (assignEach (e :: es) X.env).map (·.2) = assign e X.env :: (assignEach es X.env).map (·.2) := by rfl) : PGs X (e :: es) (gsD X.K (gCons g h) ws) := by
  refine ⟨fun pins s σ H vs us Q I r q => (pgs_cons h1 h2 hs).run pins s σ H vs us Q I r ?_⟩
  obtain ⟨fx, ss, ds, ss', fr, rp, e, k⟩ := q
  cases ds with
  | nil => cases e
  | cons d dr =>
    cases rp with
    | cons rd rr =>
      obtain ⟨s1, e1, e2⟩ := Option.bind_eq_some_iff.mp e
      exact ⟨_, _, rfl, fx, ss, d, s1, fr, rd, e1, fun σ1 H1 w1 k1 f1 => ⟨fx, s1, dr, ss', f1, rr.kp k1, e2, fun σ2 H2 w2 k2 f2 => k σ2 H2 (w2.trans w1) (k1.trans k2) f2⟩⟩
/-- (a, b, ..) = a tuple -/
def gTup (n : Nat) (g : List D → SS → Option SS) : GF := fun d ss => match d with
  | .tuple ds => if ds.length = n then g ds ss else none
  | _ => none
theorem gt {es : List Expr} {k n : Nat} {g : List D → SS → Option SS} (hc : X.calm = true) (h : PGs X es (gsD X.K g ws)) (hn : (assignEach es X.env).length = n := by rfl) (hst : (assignEach es X.env).findIdx? (·.1) = none := by rfl) :
    PG X (.Tuple es k pos) (gD X.K (gTup n g) ws) := by
  refine ⟨fun pins s σ H v u Q I r q => (pg_tup (pos := pos) (k := k) hc h hn hst).run pins s σ H v u Q I r ?_⟩
  obtain ⟨fx, ss, d, ss', fr, rp, e, k⟩ := q
  unfold gTup at e
  split at e
  · split at e
    · rename_i hl
      obtain ⟨a, xs, rfl, h1, r1⟩ := rp.tupv
      exact ⟨a, xs, rfl, h1, r1.len.trans hl, fx, ss, _, ss', fr, r1, e, k⟩
    · cases e
  · cases e
def sAsg (f : FE) (g : GF) : FS := fun ss => match f ss with
  | .ok d s1 => match g d s1 with
    | some s2 => .nx s2
    | none => .no
  | .no => .no
theorem asg_read {σ : St} {H : Hp} {E : Ends} {gg : GF} (q : tS X.K (sAsg f gg) E σ H) : tAsg (tD X.K f) (gD X.K gg ws) E σ H := by
  obtain ⟨fx, ss, fr, k⟩ := tS_iff.mp q
  unfold sAsg at k
  cases e : f ss with
  | no => rw [e] at k; exact k.elim
  | ok d s1 =>
    rw [e] at k
    simp only at k
    cases e2 : gg d s1 with
    | none => rw [e2] at k; exact k.elim
    | some s2 => 
      rw [e2] at k
      exact ⟨fx, ss, d, s1, fr, e, fun v H1 k1 f1 r1 => ⟨fx, s1, d, s2, f1, r1, e2, fun σ2 H2 _ k2 f2 => k σ2 H2 (k1.trans k2) f2⟩⟩
theorem sasg {tg : Expr} {gg : GF} (he : PE X a (tD X.K f)) (hg : PG X tg (gD X.K gg ws)) (hs : swapsWithSole [tg] a pos.line X.env = pure false := by rfl) (hw : swappedStores [tg] a X.env = pure none := by rfl) (h1 : (assignEach [tg] X.env).map (·.2) = [assign tg X.env] := by rfl) : PS X (.Assign [tg] a pos) (tS X.K (sAsg f gg)) :=
  (ps_asg he hg hs hw (h1 := h1)).imp fun E σ H q => asg_read q
/-- x = e, data -/
theorem sset (i : Nat) {x : Str} {pos' : Pos} (hN : X.N.Nodup) (he : PE X a (tD X.K f)) (hi : X.N[i]? = some x := by rfl) (hx : Loc X.env.scope x := by first | exact Or.inl rfl | exact Or.inr rfl) (hs : swapsWith a (some (.Name x pos')) pos.line X.env = pure false := by rfl)
    (hf : X.fn x = true ∨ X.env.scope.names.lookup x = some .local := by first | exact .inl rfl | exact .inr rfl | assumption) : PS X (.Assign [.Name x pos'] a pos) (tS X.K (sAsg f (gN i))) := by
  refine (ps_set hN hi hx he hs hf).imp fun E σ H q => ?_
  obtain ⟨fx, ss, fr, k⟩ := tS_iff.mp q
  unfold sAsg gN at k
  cases e : f ss with
  | no => rw [e] at k; exact k.elim
  | ok d s1 =>
    rw [e] at k
    simp only at k
    by_cases hl : i < s1.length
    · rw [if_pos hl] at k
      exact ⟨fx, ss, d, s1, fr, e, fun v H1 k1 f1 r1 => k _ _ k1 (f1.imm hl r1)⟩
    · rw [if_neg hl] at k; exact k.elim
/-- x = e, an object of one's own -/
def sOwn (f : FN) (i : Nat) : FS := fun ss => match f ss with
  | .ok o s1 => if i < s1.length then .nx (s1.set i (.own o)) else .no
  | .no => .no
theorem own_read {σ : St} {H : Hp} {E : Ends} {i : Nat} (q : tS X.K (sOwn fn i) E σ H) : tAsg (tN X.K fn) (gName i) E σ H := by
  obtain ⟨fx, ss, fr, k⟩ := tS_iff.mp q
  unfold sOwn at k
  cases e : fn ss with
  | no => rw [e] at k; exact k.elim
  | ok d s1 =>
    rw [e] at k
    simp only at k
    by_cases hl : i < s1.length
    · rw [if_pos hl] at k
      exact ⟨fx, ss, d, s1, fr, e, fun p H1 k1 f1 r1 n1 => k _ _ k1 (f1.own hl r1 n1)⟩
    · rw [if_neg hl] at k; exact k.elim
theorem sown (i : Nat) {x : Str} {pos' : Pos} (hN : X.N.Nodup) (he : PE X a (tN X.K fn)) (hi : X.N[i]? = some x := by rfl) (hx : Loc X.env.scope x := by first | exact Or.inl rfl | exact Or.inr rfl) (hs : swapsWith a (some (.Name x pos')) pos.line X.env = pure false := by rfl)
    (hf : X.fn x = true ∨ X.env.scope.names.lookup x = some .local := by first | exact .inl rfl | exact .inr rfl | assumption) : PS X (.Assign [.Name x pos'] a pos) (tS X.K (sOwn fn i)) :=
  (ps_set hN hi hx he hs hf).imp fun E σ H q => own_read q
/-- a store of a new object, by any rule, then locked -/
theorem sfz {i : Nat} (hN : ∀ {σ : St} {s : Shared} {pins : List (Addr × Obj)} {H : Hp}, Inv X pins σ H s → σ.length = X.N.length) (h : PS X st (tAsg (tN X.K fn) (gName i))) : PS X st (tS X.K (sAsg (eFz fn) (gN i))) := by
  refine ⟨fun pins s σ H E I q => ?_⟩
  obtain ⟨fx, ss, fr, k⟩ := tS_iff.mp q
  unfold sAsg gN eFz at k
  cases e : fn ss with
  | no => rw [e] at k; exact k.elim
  | ok o s1 =>
    rw [e] at k
    simp only [Res.bind] at k
    by_cases hl : i < s1.length
    · rw [if_pos hl] at k
      refine thn (h.run pins s σ H { nx := fun σ' H' => ∃ p, σ' = σ.set i (some (.ref p)) ∧ Kp H H' ∧ FR X.K fx s1 σ H' ∧ OwnAt X.K H' p o ∧ NewAt fx s1 σ p, rt := fun _ _ => False, bk := fun _ _ => False, ct := fun _ _ => False } I
        ⟨fx, ss, o, s1, fr, e, fun p H' k1 f1 r1 n1 => ⟨p, rfl, k1, f1, r1, n1⟩⟩) fun fl s2 q => ?_
      cases fl with
      | next =>
        obtain ⟨σ', H', I2, p, rfl, k1, f1, ow, nw⟩ := q
        obtain ⟨w, hw, lw, mw, rp⟩ := ow.loose
        obtain ⟨od, I3⟩ := I2.lock hw mw
        exact ⟨_, _, I3, k _ _ (k1.trans (Kp.upd hw lw)) ((f1.lock nw hw lw).imm hl (rp od))⟩
      | ret u => obtain ⟨_, _, _, _, _, q⟩ := q; exact q.elim
      | brk => obtain ⟨_, _, _, q⟩ := q; exact q.elim
      | cont => obtain ⟨_, _, _, q⟩ := q; exact q.elim
    · rw [if_neg hl] at k; exact k.elim
/-- x += n, ints -/
def sAug (i : Nat) (f : FE) : FS := fun ss => match ss[i]? with
  | some (.imm (.int n)) => match f ss with
    | .ok (.int m) s1 => if i < s1.length then .nx (s1.set i (.imm (.int (n + m)))) else .no
    | _ => .no
  | _ => .no
theorem saug (i : Nat) {x : Str} {pos' : Pos} (hN : X.N.Nodup) (he : PE X a (tD X.K f)) (hi : X.N[i]? = some x := by rfl) (hx : Loc X.env.scope x := by first | exact Or.inl rfl | exact Or.inr rfl)
    (hf : X.fn x = true ∨ X.env.scope.names.lookup x = some .local := by first | exact .inl rfl | exact .inr rfl | assumption) : PS X (.AugAssign (.Name x pos') .Add a pos) (tS X.K (sAug i f)) := by
  refine (ps_aug hN hi hx he ip_add hf).imp fun E σ H q => ?_
  obtain ⟨fx, ss, fr, k⟩ := tS_iff.mp q
  unfold sAug at k
  split at k
  · rename_i n e1
    obtain ⟨v, h1, h2⟩ := fr.slot i _ e1
    obtain rfl := h2.intv
    split at k
    · rename_i m s1 e2
      split at k
      · rename_i hl
        exact ⟨_, h1, fx, ss, _, s1, fr, e2, fun w H1 k1 f1 r1 => ⟨n, m, rfl, r1.intv, k _ _ k1 (f1.imm hl (.int _))⟩⟩
      · exact k.elim
    · exact k.elim
  · exact k.elim
/-! ### loops -/
def sWh (c : FB) (b : FS) : Nat → FS
  | 0 => fun _ => .no
  | n + 1 => fun ss => match c ss with
    | .no => .no
    | .ok false s1 => .nx s1
    | .ok true s1 => match b s1 with
      | .nx s2 => sWh c b n s2
      | .ct s2 => sWh c b n s2
      | .bk s2 => .nx s2
      | .rt r s2 => .rt r s2
      | .no => .no
theorem swh (n : Nat) {body : List Stmt} (hp : PassesOwn (model X.prog X.w) X.A X.env X.xe) (hc : PT X c (tT X.K fc)) (hb : PSs X body (tS X.K fb)) : PS X (.While c body [] pos) (tS X.K (sWh fc fb n)) := by
  refine (ps_while hp hc hb).imp fun E σ H q => ?_
  obtain ⟨fx, ss, fr, k⟩ := tS_iff.mp q
  refine ⟨fun m σ' H' => ∃ ss', FR X.K fx ss' σ' H' ∧ Post X.K fx E H' (sWh fc fb m ss'), ⟨n, ss, fr, k⟩, fun m σ' H' ⟨s0, f0, k0⟩ => ?_⟩
  cases m with
  | zero => exact k0.elim
  | succ m =>
    unfold sWh at k0
    cases e : fc s0 with
    | no => rw [e] at k0; exact k0.elim
    | ok x s1 =>
      rw [e] at k0
      refine ⟨fx, s0, x, s1, f0, e, fun H1 k1 f1 => ?_⟩
      cases x with
      | false => exact iteF (k0 σ' H1 k1 f1)
      | true =>
        refine iteT ⟨fun σ2 H2 => ∃ ss', FR X.K fx ss' σ2 H2 ∧ Post X.K fx E H2 (sWh fc fb m ss'), fun σ2 H2 q => ⟨m, Nat.lt_succ_self m, q⟩, tS_iff.mpr ⟨fx, s1, f1, ?_⟩⟩
        simp only at k0
        cases e2 : fb s1 with
        | no => rw [e2] at k0; exact k0.elim
        | nx s2 => rw [e2] at k0; exact fun σ2 H2 k2 f2 => ⟨s2, f2, k0.kp (k1.trans k2)⟩
        | ct s2 => rw [e2] at k0; exact fun σ2 H2 k2 f2 => ⟨s2, f2, k0.kp (k1.trans k2)⟩
        | bk s2 => rw [e2] at k0; exact fun σ2 H2 k2 f2 => k0 σ2 H2 (k1.trans k2) f2
        | rt r s2 => rw [e2] at k0; exact fun v σ2 H2 k2 f2 => k0 v σ2 H2 (k1.trans k2) f2
/-- the iterator yields the data, whatever happens -/
def Walk (K : Fg) (J : It) (ds : List D) (H : Hp) : Prop :=
  ∀ i H', Kp H H' → (∀ d, ds[i]? = some d → J.go i H' ∧ ∀ x H2, J.yld i H' x H2 → Same H' H2 ∧ Rep K H2 x d) ∧ (ds.length ≤ i → J.stop i H')
def iD (K : Fg) (f : FL) : TI := fun σ H R => ∃ fx ss ds ss', FR K fx ss σ H ∧ f ss = .ok ds ss' ∧ ∀ J H1, Kp H H1 → FR K fx ss' σ H1 → Walk K J ds H1 → R J H1
def loopF (g : GF) (b : FS) : List D → SS → Out
  | [], ss => .nx ss
  | d :: r, ss => match g d ss with
    | none => .no
    | some s1 => match b s1 with
      | .nx s2 => loopF g b r s2
      | .ct s2 => loopF g b r s2
      | .bk s2 => .nx s2
      | .rt r s2 => .rt r s2
      | .no => .no
def sFor (src : FL) (g : GF) (b : FS) : FS := fun ss => match src ss with
  | .ok ds s1 => loopF g b ds s1
  | .no => .no
theorem sfor {tg iter : Expr} {body : List Stmt} {fl : FL} {gg : GF} (hp : PassesOwn (model X.prog X.w) X.A X.env X.xe) (hc : X.calm = true) (hi : PI X tg iter (iD X.K fl)) (hg : PG X tg (gD X.K gg ws)) (hb : PSs X body (tS X.K fb)) (hs : ∀ x, foldedSetIterable iter X.env x = pure x := by intro _; rfl) :
    PS X (.For tg iter body [] pos) (tS X.K (sFor fl gg fb)) := by
  refine (ps_for hp hc hi hg hb hs).imp fun E σ H q => ?_
  obtain ⟨fx, ss, fr, k⟩ := tS_iff.mp q
  unfold sFor at k
  cases e : fl ss with
  | no => rw [e] at k; exact k.elim
  | ok ds s1 =>
    rw [e] at k
    simp only at k
    refine ⟨fx, ss, ds, s1, fr, e, fun J H1 k1 f1 w => ?_⟩
    refine ⟨fun i m σ' H' => m = ds.length - i ∧ i ≤ ds.length ∧ Kp H1 H' ∧ ∃ ss', FR X.K fx ss' σ' H' ∧ Post X.K fx E H' (loopF gg fb (ds.drop i) ss'), ⟨ds.length, by omega, Nat.zero_le _, Kp.refl _, s1, f1, k.kp k1⟩, fun i m σ' H' ⟨em, hle, k2, s2, f2, q2⟩ => ?_⟩
    have wi := w i H' k2
    by_cases hlt : i < ds.length
    · have ed : ds.drop i = ds[i] :: ds.drop (i + 1) := List.drop_eq_getElem_cons hlt
      rw [ed] at q2
      unfold loopF at q2
      obtain ⟨go, yl⟩ := wi.1 ds[i] (List.getElem?_eq_getElem hlt)
      refine .inr ⟨go, fun σ3 H3 => Kp H1 H3 ∧ ∃ ss', FR X.K fx ss' σ3 H3 ∧ Post X.K fx E H3 (loopF gg fb (ds.drop (i + 1)) ss'), fun σ3 H3 ⟨k3, q3⟩ => ⟨ds.length - (i + 1), by omega, rfl, hlt, k3, q3⟩, fun x H3 hy => ?_⟩
      obtain ⟨sm, rp⟩ := yl x H3 hy
      have k23 := k2.trans (.same sm)
      cases e2 : gg ds[i] s2 with
      | none => rw [e2] at q2; exact q2.elim
      | some s3 =>
        rw [e2] at q2
        simp only at q2
        refine ⟨fx, s2, ds[i], s3, f2.same sm, rp, e2, fun σ4 H4 _ k4 f4 => tS_iff.mpr ⟨fx, s3, f4, ?_⟩⟩
        have k24 : Kp H' H4 := (Kp.same sm).trans k4
        cases e3 : fb s3 with
        | no => rw [e3] at q2; exact q2.elim
        | nx s4 => rw [e3] at q2; exact fun σ5 H5 k5 f5 => ⟨(k2.trans k24).trans k5, s4, f5, q2.kp (k24.trans k5)⟩
        | ct s4 => rw [e3] at q2; exact fun σ5 H5 k5 f5 => ⟨(k2.trans k24).trans k5, s4, f5, q2.kp (k24.trans k5)⟩
        | bk s4 => rw [e3] at q2; exact fun σ5 H5 k5 f5 => q2 σ5 H5 (k24.trans k5) f5
        | rt r s4 => rw [e3] at q2; exact fun v σ5 H5 k5 f5 => q2 v σ5 H5 (k24.trans k5) f5
    · have ed : ds.drop i = [] := List.drop_eq_nil_of_le (by omega)
      rw [ed] at q2
      exact .inl ⟨wi.2 (by omega), q2 σ' H' (Kp.refl _) f2⟩
end
end Dt

/-! Dt5: a def's promise by data, its call. -/
namespace Dt
open PySem PySem.Spec L2
open PyProof.Rows hiding St

/-- a def by data: the arguments as they come in; what it hands back, the arguments behind it -/
abbrev FnS := List Sl → Option (Sl × List Sl)
def callF (n : Nat) (b : FS) : FnS := fun args => match b (args ++ List.replicate (n - args.length) .un) with
  | .rt r ss => some (r, ss.take args.length)
  | .nx ss => some (.imm .none, ss.take args.length)
  | _ => none
def ArgOk (K : Fg) (H : Hp) (v : V) : Sl → Prop
  | .imm d => Rep K H v d
  | .bor o => ∃ p, v = .ref p ∧ OwnAt K H p o
  | _ => False
structure ArgsOk (K : Fg) (H : Hp) (args : List Sl) (vs : List V) : Prop where
  len : vs.length = args.length
  each : ∀ (i : Nat) (sl : Sl) (v : V), args[i]? = some sl → vs[i]? = some v → ArgOk K H v sl
  dis : ∀ (i j : Nat) (o u : O) (v : V), args[i]? = some (.bor o) → args[j]? = some (.bor u) → vs[i]? = some v → vs[j]? = some v → i = j
def RetC (K : Fg) (H H' : Hp) (v : V) : Sl → Prop
  | .imm d => Rep K H' v d
  | .own o => ∃ p, v = .ref p ∧ H p = none ∧ OwnAt K H' p o
  | _ => False
structure PostC (K : Fg) (H H' : Hp) (vs : List V) (args args' : List Sl) (r : Sl) (v : V) : Prop where
  kp : Kp H H'
  rest : ∀ (a : Addr) (o : HO), H a = some o → (∀ (i : Nat) (u : O), args[i]? = some (.bor u) → vs[i]? ≠ some (.ref a)) → H' a = some o
  there : ∀ (a : Addr), H' a = none → H a = none
  bor : ∀ (i : Nat) (o u : O) (p : Addr), args[i]? = some (.bor o) → args'[i]? = some (.bor u) → vs[i]? = some (.ref p) → OwnAt K H' p u
  ret : RetC K H H' v r
def spOf (K : Fg) (F : FnS) (m : Nat) : Sp := fun vs H Q _ => vs.length = m ∧ ∃ args r args', ArgsOk K H args vs ∧ F args = some (r, args') ∧ ∀ v H', PostC K H H' vs args args' r v → Q v H'

theorem start_get {N : List Str} {vs : List V} {i : Nat} {v : V} (h : vs[i]? = some v) : (start N vs)[i]? = some (some v) := by
  have hi : i < vs.length := (List.getElem?_eq_some_iff.mp h).1
  unfold L2.start
  rw [List.getElem?_append_left (by simpa using hi), List.getElem?_map, h]
  rfl
/-- the frame at the entry -/
def fxOf (H : Hp) (args : List Sl) (vs : List V) : Fx := ⟨H, fun i => match args[i]?, vs[i]? with
  | some (.bor _), some (.ref p) => some p
  | _, _ => none⟩
theorem fx_some {H : Hp} {args : List Sl} {vs : List V} {i : Nat} {p : Addr} (h : (fxOf H args vs).P i = some p) : ∃ o, args[i]? = some (.bor o) ∧ vs[i]? = some (.ref p) := by
  unfold fxOf at h
  simp only at h
  split at h
  · cases h
    exact ⟨_, by assumption, by assumption⟩
  · cases h
theorem fx_of {H : Hp} {args : List Sl} {vs : List V} {i : Nat} {p : Addr} {o : O} (h1 : args[i]? = some (.bor o)) (h2 : vs[i]? = some (.ref p)) : (fxOf H args vs).P i = some p := by
  unfold fxOf
  simp only [h1, h2]
theorem fr_start {K : Fg} {H : Hp} {args : List Sl} {vs : List V} {N : List Str} (ok : ArgsOk K H args vs) (hN : vs.length ≤ N.length) : FR K (fxOf H args vs) (args ++ List.replicate (N.length - args.length) .un) (start N vs) H := by
  have len := ok.len
  have cases_ : ∀ (i : Nat) (sl : Sl), (args ++ List.replicate (N.length - args.length) Sl.un)[i]? = some sl → (∃ v, args[i]? = some sl ∧ vs[i]? = some v ∧ (start N vs)[i]? = some (some v)) ∨ sl = .un := fun i sl e => by
    by_cases hi : i < args.length
    · rw [List.getElem?_append_left hi] at e
      have hv : vs[i]? = some (vs[i]'(by omega)) := List.getElem?_eq_getElem (by omega)
      exact .inl ⟨_, e, hv, start_get hv⟩
    · rw [List.getElem?_append_right (by omega), List.getElem?_replicate] at e
      split at e
      · exact .inr (Option.some.inj e).symm
      · cases e
  refine ⟨?_, Kp.refl H, fun a o e _ => e, fun a e => e, fun i sl e => ?_, fun i j p si sj oi oj ei ej eoi eoj hi hj => ?_⟩
  · unfold L2.start
    rw [List.length_append, List.length_append, List.length_map, List.length_replicate, List.length_replicate, len]
  · rcases cases_ i sl e with ⟨v, h1, h2, h3⟩ | rfl
    · have q := ok.each i sl v h1 h2
      cases sl with
      | un => trivial
      | imm d => exact ⟨v, h3, q⟩
      | own o => exact q.elim
      | bor o =>
        obtain ⟨p, rfl, ow⟩ := q
        exact ⟨p, h3, ow, fx_of h1 h2⟩
    · trivial
  · rcases cases_ i si ei with ⟨v, h1, h2, h3⟩ | rfl
    · rcases cases_ j sj ej with ⟨w, g1, g2, g3⟩ | rfl
      · have q1 := ok.each i si v h1 h2
        have q2 := ok.each j sj w g1 g2
        have ei : v = .ref p := by rw [hi] at h3; cases h3; rfl
        have ej : w = .ref p := by rw [hj] at g3; cases g3; rfl
        subst ei
        subst ej
        cases si with
        | bor o => cases sj with
          | bor u => exact ok.dis i j o u _ h1 g1 h2 g2
          | un => cases eoj
          | imm d => cases eoj
          | own u => exact q2.elim
        | un => cases eoi
        | imm d => cases eoi
        | own u => exact q1.elim
      · cases eoj
    · cases eoi
/-- THE RULE for a def -/
theorem fn_ok {P : Program} {w : World} {K : Fg} {mg : Str → Option Value} {base : Heap} {x qual : Str} {st : Stmt} {f : Addr} {fd : FuncData} {N ps : List Str} {k : Nat} {b : FS} (F : Fun K x qual st f fd) (S : FnScope N ps (defScope st))
    (hbody : ∀ (cdv : Value) (A : Around) (outer : List Env) (s : Shared) (H : Hp) (E : XK), Room k (A.deeper (envOfC qual (defScope st) s.heap.objs.size f cdv)) →
      PSs (cxOf CX0 P w K mg base N qual (defScope st) f cdv A outer s H E).nox (defBody st) (tS K b)) :
    FnOk P w K mg base CX0 (k + 1) f fd ps (spOf K (callF N.length b) ps.length) := by
  have hpl : ps.length ≤ N.length := by have := congrArg List.length S.pre; rw [List.length_take] at this; omega
  refine F.ok S (fun vs H Q E h => h.1) fun cdv A outer s H vs Q E hr h => ?_
  obtain ⟨hl, args, r, args', ok, e, q⟩ := h
  refine ⟨_, hbody cdv A outer s H E hr, tS_iff.mpr ⟨fxOf H args vs, _, fr_start (N := N) ok (by omega), ?_⟩⟩
  have fin : ∀ (ss : SS) (v : V) (σ' : St) (H' : Hp), Kp H H' → FR K (fxOf H args vs) ss σ' H' → RetR K (fxOf H args vs) ss σ' H' v r → args' = ss.take args.length → Q v H' := fun ss v σ' H' k1 f1 rr ea => by
    refine q v H' ⟨k1, fun a o ea hn => f1.rest a o ea fun i z => ?_, f1.there, fun i o u p h1 h2 h3 => ?_, ?_⟩
    · obtain ⟨o', z1, z2⟩ := fx_some z
      exact hn i o' z1 z2
    · subst ea
      rw [List.getElem?_take] at h2
      split at h2
      · obtain ⟨p', _, ow, hP⟩ := f1.slot i _ h2
        rw [fx_of h1 h3] at hP
        cases hP
        exact ow
      · cases h2
    · cases r with
      | imm d => exact rr
      | own o => obtain ⟨p, e1, e2, e3⟩ := rr; exact ⟨p, e1, e3.1, e2⟩
      | un => exact rr.elim
      | bor o => exact rr.elim
  unfold callF at e
  cases eb : b (args ++ List.replicate (N.length - args.length) .un) with
  | no => rw [eb] at e; cases e
  | bk ss => rw [eb] at e; cases e
  | ct ss => rw [eb] at e; cases e
  | rt r' ss =>
    rw [eb] at e
    cases e
    exact fun v σ' H' k1 f1 rr => fin ss v σ' H' k1 f1 rr rfl
  | nx ss =>
    rw [eb] at e
    cases e
    exact fun σ' H' k1 f1 => fin ss .non σ' H' k1 f1 .non rfl

/-! ### the call -/
def resolve (ss : SS) : List Ar → Option (List Sl)
  | [] => some []
  | .d d :: r => (resolve ss r).map fun t => .imm d :: t
  | .ref i :: r => match (ss[i]?).bind Sl.obj with
    | some o => (resolve ss r).map fun t => .bor o :: t
    | none => none
def refs : List Ar → List Nat
  | [] => []
  | .d _ :: r => refs r
  | .ref i :: r => i :: refs r
def putB : List Ar → List Sl → SS → Option SS
  | [], [], ss => some ss
  | .d _ :: r, _ :: t, ss => putB r t ss
  | .ref i :: r, .bor o :: t, ss => match ss[i]? with
    | some s => putB r t (ss.set i (s.put o))
    | none => none
  | _, _, _ => none
def callAt (F : FnS) (as : List Ar) (ss : SS) : Option (Sl × SS) := if (refs as).Nodup then (resolve ss as).bind fun args => (F args).bind fun p => (putB as p.2 ss).map fun s2 => (p.1, s2) else none
theorem mem_refs : ∀ {as : List Ar} {k j : Nat}, as[k]? = some (.ref j) → j ∈ refs as
  | .d _ :: r, 0, j, h => by cases h
  | .ref i :: r, 0, j, h => by cases h; exact List.mem_cons_self
  | .d _ :: r, k + 1, j, h => by
    unfold refs
    exact mem_refs (as := r) (k := k) h
  | .ref i :: r, k + 1, j, h => List.mem_cons_of_mem _ (mem_refs (as := r) (k := k) h)
  | [], k, j, h => by cases h
theorem refs_inj : ∀ {as : List Ar} {k l j : Nat}, (refs as).Nodup → as[k]? = some (.ref j) → as[l]? = some (.ref j) → k = l
  | [], _, _, _, _, h, _ => by cases h
  | .d _ :: r, 0, _, _, _, h, _ => by cases h
  | .d _ :: r, k + 1, 0, _, _, _, h => by cases h
  | .d _ :: r, k + 1, l + 1, j, n, h1, h2 => congrArg (· + 1) (refs_inj (as := r) (by unfold refs at n; exact n) h1 h2)
  | .ref i :: r, 0, 0, _, _, _, _ => rfl
  | .ref i :: r, 0, l + 1, j, n, h1, h2 => by
    cases h1
    exact absurd (mem_refs (as := r) h2) (List.nodup_cons.mp n).1
  | .ref i :: r, k + 1, 0, j, n, h1, h2 => by
    cases h2
    exact absurd (mem_refs (as := r) h1) (List.nodup_cons.mp n).1
  | .ref i :: r, k + 1, l + 1, j, n, h1, h2 => congrArg (· + 1) (refs_inj (as := r) (List.nodup_cons.mp n).2 h1 h2)
theorem resolve_len : ∀ {as : List Ar} {ss : SS} {args : List Sl}, resolve ss as = some args → args.length = as.length
  | [], _, _, h => by cases h; rfl
  | .d _ :: r, ss, args, h => by
    obtain ⟨t, h1, rfl⟩ := Option.map_eq_some_iff.mp h
    rw [List.length_cons, List.length_cons, resolve_len h1]
  | .ref i :: r, ss, args, h => by
    unfold resolve at h
    split at h
    · obtain ⟨t, h1, rfl⟩ := Option.map_eq_some_iff.mp h
      rw [List.length_cons, List.length_cons, resolve_len h1]
    · cases h
theorem resolve_get : ∀ {as : List Ar} {ss : SS} {args : List Sl} {k : Nat} {sl : Sl}, resolve ss as = some args → args[k]? = some sl → (∃ d, as[k]? = some (.d d) ∧ sl = .imm d) ∨ ∃ i s o, as[k]? = some (.ref i) ∧ ss[i]? = some s ∧ s.obj = some o ∧ sl = .bor o
  | [], _, _, k, sl, h, e => by cases h; cases e
  | .d d :: r, ss, args, k, sl, h, e => by
    obtain ⟨t, h1, rfl⟩ := Option.map_eq_some_iff.mp h
    cases k with
    | zero => cases e; exact .inl ⟨d, rfl, rfl⟩
    | succ k => exact resolve_get (as := r) h1 e
  | .ref i :: r, ss, args, k, sl, h, e => by
    unfold resolve at h
    split at h
    · rename_i o ho
      obtain ⟨s, hs, hso⟩ := Option.bind_eq_some_iff.mp ho
      obtain ⟨t, h1, rfl⟩ := Option.map_eq_some_iff.mp h
      cases k with
      | zero => cases e; exact .inr ⟨i, s, o, rfl, hs, hso, rfl⟩
      | succ k => exact resolve_get (as := r) h1 e
    · cases h
/-- place by place -/
theorem putB_get : ∀ {as : List Ar} {t : List Sl} {ss s2 : SS}, putB as t ss = some s2 → (refs as).Nodup → s2.length = ss.length ∧ ∀ j : Nat, (∃ (k : Nat) (o : O) (s : Sl), as[k]? = some (.ref j) ∧ t[k]? = some (.bor o) ∧ ss[j]? = some s ∧ s2[j]? = some (s.put o)) ∨ ((∀ k : Nat, as[k]? ≠ some (Ar.ref j)) ∧ s2[j]? = ss[j]?)
  | [], [], ss, s2, h, _ => by cases h; exact ⟨rfl, fun j => .inr ⟨fun k z => (by cases z), rfl⟩⟩
  | .d d :: r, x :: t, ss, s2, h, n => by
    obtain ⟨h1, h2⟩ := putB_get (as := r) (t := t) h (by unfold refs at n; exact n)
    refine ⟨h1, fun j => ?_⟩
    rcases h2 j with ⟨k, o, s, a, b, c⟩ | ⟨a, b⟩
    · exact .inl ⟨k + 1, o, s, a, b, c⟩
    · refine .inr ⟨fun k z => ?_, b⟩
      cases k with
      | zero => cases z
      | succ k => exact a k z
  | .ref i :: r, .bor o :: t, ss, s2, h, n => by
    unfold putB at h
    split at h
    · rename_i s hs
      have n2 := List.nodup_cons.mp n
      obtain ⟨h1, h2⟩ := putB_get (as := r) (t := t) h n2.2
      refine ⟨h1.trans (by rw [List.length_set]), fun j => ?_⟩
      by_cases hj : j = i
      · subst hj
        rcases h2 j with ⟨k, o', s', a, b, c⟩ | ⟨a, b⟩
        · exact absurd (mem_refs a) n2.1
        · refine .inl ⟨0, o, s, rfl, rfl, hs, ?_⟩
          rw [b, List.getElem?_set_self (List.getElem?_eq_some_iff.mp hs).1]
      · rcases h2 j with ⟨k, o', s', a, b, c, d⟩ | ⟨a, b⟩
        · rw [List.getElem?_set_ne (Ne.symm hj)] at c
          exact .inl ⟨k + 1, o', s', a, b, c, d⟩
        · rw [List.getElem?_set_ne (Ne.symm hj)] at b
          refine .inr ⟨fun k z => ?_, b⟩
          cases k with
          | zero => cases z; exact hj rfl
          | succ k => exact a k z
    · cases h
  | .ref i :: r, .un :: t, ss, s2, h, n => by cases h
  | .ref i :: r, .imm _ :: t, ss, s2, h, n => by cases h
  | .ref i :: r, .own _ :: t, ss, s2, h, n => by cases h
  | [], x :: t, ss, s2, h, n => by cases h
  | .d _ :: r, [], ss, s2, h, n => by cases h
  | .ref _ :: r, [], ss, s2, h, n => by cases h
section
variable {K : Fg} {fx : Fx} {ss s2 : SS} {σ : St} {H H' : Hp}
theorem argsR_get {as : List Ar} {vs : List V} (h : ArgsR K H σ vs as) : vs.length = as.length ∧ ∀ (k : Nat) (v : V) (a : Ar), vs[k]? = some v → as[k]? = some a → ArgR K H σ v a := by
  refine ⟨Paired.length h, ?_⟩
  induction h with
  | nil => intro k v a e; cases e
  | cons r t ih =>
    intro k v a e1 e2
    cases k with
    | zero => cases e1; cases e2; exact r
    | succ k => exact ih k v a e1 e2
theorem args_ok {as : List Ar} {vs : List V} {args : List Sl} (f : FR K fx ss σ H) (r : ArgsR K H σ vs as) (n : (refs as).Nodup) (e : resolve ss as = some args) : ArgsOk K H args vs := by
  obtain ⟨hl, hg⟩ := argsR_get r
  refine ⟨by rw [hl, resolve_len e], fun i sl v h1 h2 => ?_, fun i j o u v h1 h2 h3 h4 => ?_⟩
  · rcases resolve_get e h1 with ⟨d, a, rfl⟩ | ⟨k, s, o, a, b, c, rfl⟩
    · cases hg i v _ h2 a with
      | d rp => exact rp
    · cases hg i v _ h2 a with
      | ref hs =>
        obtain ⟨p, z, ow, _⟩ := (f.slot k s b).obj c
        rw [hs] at z
        cases z
        exact ⟨p, rfl, ow⟩
  · rcases resolve_get e h1 with ⟨d, a, z⟩ | ⟨k, s, o1, a, b, c, z⟩
    · cases z
    · rcases resolve_get e h2 with ⟨d, a2, z2⟩ | ⟨k2, s2, o2, a2, b2, c2, z2⟩
      · cases z2
      · cases hg i v _ h3 a with
        | ref hs =>
          cases hg j v _ h4 a2 with
          | ref hs2 =>
            obtain ⟨p, zz, _⟩ := (f.slot k s b).obj c
            rw [hs] at zz
            cases zz
            have ek : k = k2 := f.dis k k2 p s s2 o1 o2 b b2 c c2 hs hs2
            subst ek
            exact refs_inj n a a2
theorem FR.called {as : List Ar} {vs : List V} {args args' : List Sl} {r : Sl} {v : V} (f : FR K fx ss σ H) (ra : ArgsR K H σ vs as) (n : (refs as).Nodup) (e : resolve ss as = some args) (pc : PostC K H H' vs args args' r v) (pb : putB as args' ss = some s2) : FR K fx s2 σ H' := by
  obtain ⟨hl, hg⟩ := argsR_get ra
  obtain ⟨l2, g2⟩ := putB_get pb n
  have alen := resolve_len e
  -- a slot's object that isn't lent stays
  have stays : ∀ (j : Nat) (p : Addr) (s : Sl) (o : O), ss[j]? = some s → s.obj = some o → σ[j]? = some (some (.ref p)) → (∀ k : Nat, as[k]? ≠ some (.ref j)) → H' p = H p := fun j p s o e1 e2 e3 hn => by
    obtain ⟨u, hu, _⟩ := f.root e1 e2 e3
    rw [hu]
    refine pc.rest p u hu fun i u' h1 h2 => ?_
    rcases resolve_get e h1 with ⟨d, a, z⟩ | ⟨k, s', o', a, b, c, z⟩
    · cases z
    · cases hg i _ _ h2 a with
      | ref hs =>
        have ek : k = j := f.dis k j p s' s o' o b e1 c e2 hs e3
        subst ek
        exact hn i a
  have lent : ∀ (k j : Nat) (o : O) (s : Sl) (p : Addr) (o' : O), as[k]? = some (.ref j) → args'[k]? = some (.bor o) → ss[j]? = some s → s.obj = some o' → σ[j]? = some (some (.ref p)) → OwnAt K H' p o := fun k j o s p o' h1 h2 h3 h4 h5 => by
    have hk : k < as.length := (List.getElem?_eq_some_iff.mp h1).1
    have hv : vs[k]? = some (vs[k]'(by omega)) := List.getElem?_eq_getElem (by omega)
    have ha : args[k]? = some (args[k]'(by omega)) := List.getElem?_eq_getElem (by omega)
    rcases resolve_get e ha with ⟨d, a, z⟩ | ⟨i, s', o2, a, b, c, z⟩
    · rw [h1] at a; cases a
    · rw [h1] at a
      cases a
      rw [z] at ha
      have q := hg k _ _ hv h1
      cases q with
      | ref hs =>
        rw [h5] at hs
        have hvp : vs[k]? = some (.ref p) := by rw [hv]; exact (Option.some.inj hs).symm
        exact pc.bor k o2 o p ha h2 hvp
  have obj_of : ∀ (j : Nat) (sl : Sl) (o : O), s2[j]? = some sl → sl.obj = some o → ∃ s o', ss[j]? = some s ∧ s.obj = some o' := fun j sl o e1 e2 => by
    rcases g2 j with ⟨k, o1, s, a, b, c, d⟩ | ⟨_, b⟩
    · rw [d] at e1
      cases e1
      cases s with
      | un => cases e2
      | imm x => cases e2
      | own x => exact ⟨_, _, c, rfl⟩
      | bor x => exact ⟨_, _, c, rfl⟩
    · rw [b] at e1
      exact ⟨_, _, e1, e2⟩
  refine ⟨by rw [f.len, l2], f.kp.trans pc.kp, fun a o ea hP => ?_, fun a ea => f.there a (pc.there a ea), fun j sl ej => ?_, fun i j p si sj oi oj ei ej eoi eoj hi hj => ?_⟩
  · refine pc.rest a o (f.rest a o ea hP) fun i u h1 h2 => ?_
    rcases resolve_get e h1 with ⟨d, x, z⟩ | ⟨k, s, o2, x, b, c, z⟩
    · cases z
    · cases hg i _ _ h2 x with
      | ref hs =>
        obtain ⟨p, z1, _, z3⟩ := (f.slot k s b).obj c
        rw [hs] at z1
        cases z1
        rcases z3 with z3 | z3
        · rw [ea] at z3; cases z3
        · exact hP k z3
  · rcases g2 j with ⟨k, o1, s, a, b, c, d⟩ | ⟨hn, b⟩
    · rw [d] at ej
      cases ej
      have q := f.slot j s c
      cases s with
      | un => exact q
      | imm x => obtain ⟨v, q1, q2⟩ := q; exact ⟨v, q1, q2.kp pc.kp⟩
      | own x => obtain ⟨p, q1, q2, q3⟩ := q; exact ⟨p, q1, lent k j o1 _ p x a b c rfl q1, q3⟩
      | bor x => obtain ⟨p, q1, q2, q3⟩ := q; exact ⟨p, q1, lent k j o1 _ p x a b c rfl q1, q3⟩
    · rw [b] at ej
      have q := f.slot j sl ej
      cases sl with
      | un => exact q
      | imm x => obtain ⟨v, q1, q2⟩ := q; exact ⟨v, q1, q2.kp pc.kp⟩
      | own x => obtain ⟨p, q1, q2, q3⟩ := q; exact ⟨p, q1, q2.kp pc.kp (stays j p _ x ej rfl q1 hn), q3⟩
      | bor x => obtain ⟨p, q1, q2, q3⟩ := q; exact ⟨p, q1, q2.kp pc.kp (stays j p _ x ej rfl q1 hn), q3⟩
  · obtain ⟨s, o, a, b⟩ := obj_of i si oi ei eoi
    obtain ⟨s', o', a', b'⟩ := obj_of j sj oj ej eoj
    exact f.dis i j p s s' o o' a a' b b' hi hj
theorem putB_obj {as : List Ar} {t : List Sl} (pb : putB as t ss = some s2) (n : (refs as).Nodup) {j : Nat} {sl : Sl} {o : O} (e1 : s2[j]? = some sl) (e2 : sl.obj = some o) : ∃ s o', ss[j]? = some s ∧ s.obj = some o' := by
  rcases (putB_get pb n).2 j with ⟨k, o1, s, a, b, c, d⟩ | ⟨_, b⟩
  · rw [d] at e1
    cases e1
    cases s with
    | un => cases e2
    | imm x => cases e2
    | own x => exact ⟨_, _, c, rfl⟩
    | bor x => exact ⟨_, _, c, rfl⟩
  · rw [b] at e1
    exact ⟨_, _, e1, e2⟩
end
def LenA (fa : SS → Res (List Ar)) (n : Nat) : Prop := ∀ (ss : SS) (as : List Ar) (s1 : SS), fa ss = .ok as s1 → as.length = n
/-- arguments, one behind the other -/
def aNil : SS → Res (List Ar) := fun ss => .ok [] ss
def aCons (a : FE) (b : SS → Res (List Ar)) : SS → Res (List Ar) := fun ss => (a ss).bind fun x s1 => (b s1).bind fun y s2 => .ok (.d x :: y) s2
def aRef (i : Nat) (b : SS → Res (List Ar)) : SS → Res (List Ar) := fun ss => match (ss[i]?).bind Sl.obj with
  | some _ => (b ss).bind fun y s2 => .ok (.ref i :: y) s2
  | none => .no
theorem ln : LenA aNil 0 := fun _ _ _ h => by cases h; rfl
theorem lc {a : FE} {b : SS → Res (List Ar)} {n : Nat} (h : LenA b n) : LenA (aCons a b) (n + 1) := fun _ _ _ q => by
  obtain ⟨x, s1, e1, e⟩ := bind_ok q
  obtain ⟨y, s2, e2, e⟩ := bind_ok e
  cases e
  rw [List.length_cons, h _ _ _ e2]
theorem lr {i : Nat} {b : SS → Res (List Ar)} {n : Nat} (h : LenA b n) : LenA (aRef i b) (n + 1) := fun ss _ _ q => by
  unfold aRef at q
  split at q
  · obtain ⟨y, s2, e2, e⟩ := bind_ok q
    cases e
    rw [List.length_cons, h _ _ _ e2]
  · cases q
def eCall (F : FnS) (a : SS → Res (List Ar)) : FE := fun ss => (a ss).bind fun as s1 => match callAt F as s1 with
  | some (.imm d, s2) => .ok d s2
  | _ => .no
def nCall (F : FnS) (a : SS → Res (List Ar)) : FN := fun ss => (a ss).bind fun as s1 => match callAt F as s1 with
  | some (.own d, s2) => .ok d s2
  | _ => .no
section
variable {X : Cx} {k : Nat} {f : Addr} {fd : FuncData} {ps : List Str} {F : FnS} {x : Str} {e : Expr} {es : List Expr} {p pos : Pos} {fa : SS → Res (List Ar)}
theorem callAt_some {as : List Ar} {ss s2 : SS} {r : Sl} (h : callAt F as ss = some (r, s2)) : (refs as).Nodup ∧ ∃ args args', resolve ss as = some args ∧ F args = some (r, args') ∧ putB as args' ss = some s2 := by
  unfold callAt at h
  split at h
  · rename_i n
    obtain ⟨args, h1, h2⟩ := Option.bind_eq_some_iff.mp h
    obtain ⟨q, h3, h4⟩ := Option.bind_eq_some_iff.mp h2
    obtain ⟨t, h5, h6⟩ := Option.map_eq_some_iff.mp h4
    cases h6
    exact ⟨n, args, q.2, h1, h3, h5⟩
  · cases h
theorem call_read {m : Nat} {as : List Ar} {ss s2 : SS} {r : Sl} {fx : Fx} {σ : St} {H1 : Hp} {vs : List V} {Q : VK} {E : XK} (hm : as.length = m) (h : callAt F as ss = some (r, s2)) (fr : FR X.K fx ss σ H1) (ra : ArgsR X.K H1 σ vs as)
    (k : ∀ v H', Kp H1 H' → FR X.K fx s2 σ H' → RetR X.K fx s2 σ H' v r → Q v H') : spOf X.K F m (vs ++ []) H1 Q E := by
  obtain ⟨n, args, args', h1, h2, h3⟩ := callAt_some h
  rw [List.append_nil]
  refine ⟨by rw [(argsR_get ra).1, hm], args, r, args', args_ok fr ra n h1, h2, fun v H' pc => k v H' pc.kp (fr.called ra n h1 pc h3) ?_⟩
  have rt := pc.ret
  cases r with
  | imm d => exact rt
  | own o =>
    obtain ⟨q, e1, e2, e3⟩ := rt
    refine ⟨q, e1, e3, fr.there q e2, fun i si oi hi ho hs => ?_⟩
    obtain ⟨s, o', a, b⟩ := putB_obj h3 n hi ho
    obtain ⟨u, hu, _⟩ := fr.root a b hs
    rw [e2] at hu
    cases hu
  | un => exact rt.elim
  | bor o => exact rt.elim
theorem xcall (G : FnOk X.prog X.w X.K X.mg X.base CX0 k f fd ps (spOf X.K F ps.length)) (hr : Room k X.A) (hm : X.mg x = some (.ref f)) (hk : PySem.W.keepIn X.K (.ref f) = true) (hb : Binds X.K fd ps []) (ha : PA X (e :: es) (tA X.K fa)) (hl : (e :: es).length = ps.length := by rfl) (hal : LenA fa (e :: es).length) (hg : Gl X x := by rfl)
    (hdb : (x == ("__debug__" : Str)) = false := by decide) (he : starEach (e :: es) X.env = (false, eval e X.env) :: starEach es X.env := by rfl) (hpl : (backTo pos (starEach es X.env)).any (·.1) = false := by rfl) : PE X (.Call (.Name x p) (e :: es) [] pos) (tD X.K (eCall F fa)) := by
  refine (pe_call G hr hg hm hk hb .nil pass0 ha hdb he hpl).imp fun σ H Q q => ?_
  obtain ⟨fx, ss, d, s3, fr, e, k⟩ := q
  obtain ⟨as, s1, e1, e⟩ := bind_ok e
  split at e
  · rename_i d2 s2 ec
    cases e
    exact ⟨fx, ss, as, s1, fr, e1, fun vs H1 k1 f1 ra => call_read ((hal _ _ _ e1).trans hl) ec f1 ra fun v H' k2 f2 r2 => k v H' (k1.trans k2) f2 r2⟩
  · cases e
theorem xcallN (G : FnOk X.prog X.w X.K X.mg X.base CX0 k f fd ps (spOf X.K F ps.length)) (hr : Room k X.A) (hm : X.mg x = some (.ref f)) (hk : PySem.W.keepIn X.K (.ref f) = true) (hb : Binds X.K fd ps []) (ha : PA X (e :: es) (tA X.K fa)) (hl : (e :: es).length = ps.length := by rfl) (hal : LenA fa (e :: es).length) (hg : Gl X x := by rfl)
    (hdb : (x == ("__debug__" : Str)) = false := by decide) (he : starEach (e :: es) X.env = (false, eval e X.env) :: starEach es X.env := by rfl) (hpl : (backTo pos (starEach es X.env)).any (·.1) = false := by rfl) : PE X (.Call (.Name x p) (e :: es) [] pos) (tN X.K (nCall F fa)) := by
  refine (pe_call G hr hg hm hk hb .nil pass0 ha hdb he hpl).imp fun σ H Q q => ?_
  obtain ⟨fx, ss, d, s3, fr, e, k⟩ := q
  obtain ⟨as, s1, e1, e⟩ := bind_ok e
  split at e
  · rename_i d2 s2 ec
    cases e
    refine ⟨fx, ss, as, s1, fr, e1, fun vs H1 k1 f1 ra => call_read ((hal _ _ _ e1).trans hl) ec f1 ra fun v H' k2 f2 r2 => ?_⟩
    obtain ⟨q, rfl, r3, n3⟩ := r2
    exact k q H' (k1.trans k2) f2 r3 n3
  · cases e
end
end Dt

/-! Dt6: arguments, built-in calls, by data. -/
namespace Dt
open PySem PySem.Spec L2
open PyProof.Rows hiding St
open PySem.W (alike alikeAll dataLt EachIs)
section
variable {X : Cx} {a b : Expr} {es : List Expr} {pos : Pos} {f g : FE} {fa : SS → Res (List Ar)}
/-! ### arguments of defs -/
theorem an' : PA X [] (tA X.K aNil) := by
  refine pa_nil.imp fun σ H Q q => ?_
  obtain ⟨fx, ss, d, s3, f, e, k⟩ := q
  cases e
  exact k [] H (Kp.refl H) f .nil
theorem ac' (ha : PE X a (tD X.K f)) (hr : PA X es (tA X.K fa)) (hs : starEach (a :: es) X.env = (false, eval a X.env) :: starEach es X.env := by rfl) : PA X (a :: es) (tA X.K (aCons f fa)) := by
  refine (pa_cons ha hr hs).imp fun σ H Q q => ?_
  obtain ⟨fx, ss, d, s3, fr, e, k⟩ := q
  obtain ⟨x, s1, e1, e⟩ := bind_ok e
  obtain ⟨y, s2, e2, e⟩ := bind_ok e
  cases e
  exact ⟨fx, ss, x, s1, fr, e1, fun v H1 k1 f1 r1 => ⟨fx, s1, y, _, f1, e2, fun vs H2 k2 f2 r2 => k _ H2 (k1.trans k2) f2 (.cons (.d (r1.kp k2)) r2)⟩⟩
theorem ar (i : Nat) {x : Str} {p : Pos} (hr : PA X es (tA X.K fa)) (hN : X.N[i]? = some x := by rfl) (hv : Vis X.env.scope x := by first | exact Or.inl rfl | exact Or.inr (Or.inl rfl) | exact Or.inr (Or.inr rfl)) (hs : starEach (Expr.Name x p :: es) X.env = (false, eval (Expr.Name x p) X.env) :: starEach es X.env := by rfl)
    (hd : (x == ("__debug__" : Str)) = false := by decide) (hcd : (x == ("__classdict__" : Str)) = false := by decide) : PA X (Expr.Name x p :: es) (tA X.K (aRef i fa)) := by
  refine (pa_cons (pe_var hN hv hd hcd) hr hs).imp fun σ H Q q => ?_
  obtain ⟨fx, ss, d, s3, fr, e, k⟩ := q
  unfold aRef at e
  split at e
  · rename_i o ho
    obtain ⟨s, hs, hso⟩ := Option.bind_eq_some_iff.mp ho
    obtain ⟨y, s2, e2, e⟩ := bind_ok e
    cases e
    obtain ⟨q, z, ow, _⟩ := (fr.slot i s hs).obj hso
    exact ⟨_, z, fx, ss, y, _, fr, e2, fun vs H2 k2 f2 r2 => k _ H2 k2 f2 (.cons (.ref z) r2)⟩
  · cases e
/-! ### len, all, any, sum, min, max, tuple, list, int, str -/
def gLen : List D → Option D
  | [.list ds] => some (.int ds.length)
  | [.tuple ds] => some (.int ds.length)
  | [.str x] => if x.length ≤ sizeLine then some (.int x.length) else none
  | _ => none
theorem RepAll.one {K : Fg} {H : Hp} {vs : List V} {d : D} (h : RepAll K H vs [d]) : ∃ v, vs = [v] ∧ Rep K H v d := by
  cases h with
  | cons h r => cases r; exact ⟨_, rfl, h⟩
theorem RepAll.two {K : Fg} {H : Hp} {vs : List V} {d e : D} (h : RepAll K H vs [d, e]) : ∃ v w, vs = [v, w] ∧ Rep K H v d ∧ Rep K H w e := by
  cases h with
  | cons h r =>
    obtain ⟨w, rfl, h2⟩ := r.one
    exact ⟨_, w, rfl, h, h2⟩
theorem cLen : CallR X (.builtin "len") (cD X.K gLen) := by
  intro pins s σ H vs us Q I r ⟨ds, z, hd, hz, k⟩
  unfold gLen at hz
  split at hz
  · cases hz
    obtain ⟨v, rfl, rv⟩ := hd.one
    obtain ⟨a, xs, rfl, h1, r1⟩ := rv.lstv
    exact call_len_seq pins s σ H _ us Q I r ⟨a, xs, rfl, .inl h1.sq, k _ _ (Same.refl H) (by rw [r1.len]; exact .int _)⟩
  · cases hz
    obtain ⟨v, rfl, rv⟩ := hd.one
    obtain ⟨a, xs, rfl, h1, r1⟩ := rv.tupv
    exact call_len_seq pins s σ H _ us Q I r ⟨a, xs, rfl, .inr h1, k _ _ (Same.refl H) (by rw [r1.len]; exact .int _)⟩
  · split at hz
    · rename_i hl
      cases hz
      obtain ⟨v, rfl, rv⟩ := hd.one
      obtain rfl := rv.strv
      exact call_len_str pins s σ H _ us Q I r ⟨_, rfl, hl, k _ _ (Same.refl H) (.int _)⟩
    · cases hz
  · cases hz
theorem boolsOf : ∀ {ds : List D} {bs : List Bool}, ds.mapM asB = some bs → ds = bs.map .bool
  | [], bs, h => by cases h; rfl
  | d :: ds, bs, h => by
    rw [List.mapM_cons] at h
    obtain ⟨b, h1, h⟩ := Option.bind_eq_some_iff.mp h
    obtain ⟨bs', h2, h⟩ := Option.bind_eq_some_iff.mp h
    cases h
    rw [asB_some h1, boolsOf h2]
    rfl
theorem RepAll.bools {K : Fg} {H : Hp} : ∀ {vs : List V} {bs : List Bool}, RepAll K H vs (bs.map .bool) → vs = bs.map V.bl
  | [], [], _ => rfl
  | v :: vs, b :: bs, h => by
    cases h with
    | cons h r => rw [h.bool, RepAll.bools r]; rfl
  | v :: vs, [], h => by cases h
  | [], b :: bs, h => by cases h
def gAll : List D → Option D
  | [.list ds] => (ds.mapM asB).map fun bs => .bool (bs.all id)
  | _ => none
def gAny : List D → Option D
  | [.list ds] => (ds.mapM asB).map fun bs => .bool (bs.any id)
  | _ => none
theorem cAll (hc : X.calm = true) : CallR X (.builtin "all") (cD X.K gAll) := by
  intro pins s σ H vs us Q I r ⟨ds, z, hd, hz, k⟩
  unfold gAll at hz
  split at hz
  · obtain ⟨bs, hb, rfl⟩ := Option.map_eq_some_iff.mp hz
    obtain ⟨v, rfl, rv⟩ := hd.one
    obtain ⟨a, xs, rfl, h1, r1⟩ := rv.lstv
    rw [boolsOf hb] at r1
    rw [r1.bools] at h1
    exact cr_all hc pins s σ H _ us Q I r ⟨a, bs, rfl, h1.sq, k _ _ (Same.refl H) (.bl _)⟩
  · cases hz
theorem cAny (hc : X.calm = true) : CallR X (.builtin "any") (cD X.K gAny) := by
  intro pins s σ H vs us Q I r ⟨ds, z, hd, hz, k⟩
  unfold gAny at hz
  split at hz
  · obtain ⟨bs, hb, rfl⟩ := Option.map_eq_some_iff.mp hz
    obtain ⟨v, rfl, rv⟩ := hd.one
    obtain ⟨a, xs, rfl, h1, r1⟩ := rv.lstv
    rw [boolsOf hb] at r1
    rw [r1.bools] at h1
    exact cr_any hc pins s σ H _ us Q I r ⟨a, bs, rfl, h1.sq, k _ _ (Same.refl H) (.bl _)⟩
  · cases hz
def asI : D → Option Int
  | .int i => some i
  | _ => none
theorem asI_some {d : D} {i : Int} (h : asI d = some i) : d = .int i := by
  cases d <;> first | (cases h; rfl) | cases h
theorem intsOf : ∀ {ds : List D} {bs : List Int}, ds.mapM asI = some bs → ds = bs.map .int
  | [], bs, h => by cases h; rfl
  | d :: ds, bs, h => by
    rw [List.mapM_cons] at h
    obtain ⟨b, h1, h⟩ := Option.bind_eq_some_iff.mp h
    obtain ⟨bs', h2, h⟩ := Option.bind_eq_some_iff.mp h
    cases h
    rw [asI_some h1, intsOf h2]
    rfl
theorem mapM_ints : ∀ ns : List Int, (ns.map PyData.int).mapM asI = some ns
  | [] => rfl
  | n :: ns => by rw [List.map_cons, List.mapM_cons, mapM_ints ns]; rfl
theorem mapM_bools : ∀ ns : List Bool, (ns.map PyData.bool).mapM asB = some ns
  | [] => rfl
  | n :: ns => by rw [List.map_cons, List.mapM_cons, mapM_bools ns]; rfl
theorem RepAll.ints {K : Fg} {H : Hp} : ∀ {vs : List V} {bs : List Int}, RepAll K H vs (bs.map .int) → vs = bs.map V.int
  | [], [], _ => rfl
  | v :: vs, b :: bs, h => by
    cases h with
    | cons h r => rw [h.intv, RepAll.ints r]; rfl
  | v :: vs, [], h => by cases h
  | [], b :: bs, h => by cases h
def gSum : List D → Option D
  | [.list ds] => (ds.mapM asI).map fun bs => .int bs.sum
  | _ => none
theorem cSum (hc : X.calm = true) : CallR X (.builtin "sum") (cD X.K gSum) := by
  intro pins s σ H vs us Q I r ⟨ds, z, hd, hz, k⟩
  unfold gSum at hz
  split at hz
  · obtain ⟨bs, hb, rfl⟩ := Option.map_eq_some_iff.mp hz
    obtain ⟨v, rfl, rv⟩ := hd.one
    obtain ⟨a, xs, rfl, h1, r1⟩ := rv.lstv
    rw [intsOf hb] at r1
    rw [r1.ints] at h1
    exact cr_sum hc pins s σ H _ us Q I r ⟨a, bs, rfl, h1.sq, k _ _ (Same.refl H) (.int _)⟩
  · cases hz
def gMax : List D → Option D
  | [.int i, .int j] => some (.int (if j > i then j else i))
  | _ => none
def gMin : List D → Option D
  | [.int i, .int j] => some (.int (if j < i then j else i))
  | _ => none
theorem cMax (hc : X.calm = true) : CallR X (.builtin "max") (cD X.K gMax) := by
  intro pins s σ H vs us Q I r ⟨ds, z, hd, hz, k⟩
  unfold gMax at hz
  split at hz
  · cases hz
    obtain ⟨v, w, rfl, h1, h2⟩ := hd.two
    obtain rfl := h1.intv
    obtain rfl := h2.intv
    exact call_max2 hc pins s σ H _ us Q I r ⟨_, _, rfl, k _ _ (Same.refl H) (.int _)⟩
  · cases hz
theorem cMin (hc : X.calm = true) : CallR X (.builtin "min") (cD X.K gMin) := by
  intro pins s σ H vs us Q I r ⟨ds, z, hd, hz, k⟩
  unfold gMin at hz
  split at hz
  · cases hz
    obtain ⟨v, w, rfl, h1, h2⟩ := hd.two
    obtain rfl := h1.intv
    obtain rfl := h2.intv
    exact call_min2 hc pins s σ H _ us Q I r ⟨_, _, rfl, k _ _ (Same.refl H) (.int _)⟩
  · cases hz
def gTuple : List D → Option D
  | [.list ds] => some (.tuple ds)
  | [.tuple ds] => some (.tuple ds)
  | _ => none
theorem cTuple : CallR X (.type "tuple") (cD X.K gTuple) := by
  intro pins s σ H vs us Q I r ⟨ds, z, hd, hz, k⟩
  unfold gTuple at hz
  split at hz
  · cases hz
    obtain ⟨v, rfl, rv⟩ := hd.one
    obtain ⟨a, xs, rfl, h1, r1⟩ := rv.lstv
    exact call_tuple_of pins s σ H _ us Q I r ⟨a, xs, rfl, .inl ⟨h1.sq, fun p hp => k _ _ (same_new hp) (.tup (.of upd_same) (r1.kp (.same (same_new hp))))⟩⟩
  · cases hz
    obtain ⟨v, rfl, rv⟩ := hd.one
    obtain ⟨a, xs, rfl, h1, r1⟩ := rv.tupv
    exact call_tuple_of pins s σ H _ us Q I r ⟨a, xs, rfl, .inr ⟨h1, k _ _ (Same.refl H) rv⟩⟩
  · cases hz
def gList : List D → Option O
  | [.list ds] => some (.lst ds)
  | [.tuple ds] => some (.lst ds)
  | _ => none
theorem cListN : CallR X (.type "list") (cDN X.K gList) := by
  intro pins s σ H vs us Q I r ⟨ds, z, hd, hz, k⟩
  unfold gList at hz
  split at hz
  · cases hz
    obtain ⟨v, rfl, rv⟩ := hd.one
    obtain ⟨a, xs, rfl, h1, r1⟩ := rv.lstv
    exact call_list_of pins s σ H _ us Q I r ⟨a, xs, rfl, .inl h1.sq, fun p hp => k _ _ hp (same_new hp) ⟨_, upd_same, r1.kp (.same (same_new hp))⟩⟩
  · cases hz
    obtain ⟨v, rfl, rv⟩ := hd.one
    obtain ⟨a, xs, rfl, h1, r1⟩ := rv.tupv
    exact call_list_of pins s σ H _ us Q I r ⟨a, xs, rfl, .inr h1, fun p hp => k _ _ hp (same_new hp) ⟨_, upd_same, r1.kp (.same (same_new hp))⟩⟩
  · cases hz
def gInt : List D → Option D
  | [.int i] => some (.int i)
  | [.bool b] => some (.int (if b = true then 1 else 0))
  | [.str x] => if x.length ≤ 640 then (PySem.intText? x).map .int else none
  | _ => none
theorem cInt : CallR X (.type "int") (cD X.K gInt) := by
  intro pins s σ H vs us Q I r ⟨ds, z, hd, hz, k⟩
  unfold gInt at hz
  split at hz
  · cases hz
    obtain ⟨v, rfl, rv⟩ := hd.one
    obtain rfl := rv.intv
    exact call_int1 pins s σ H _ us Q I r (.inl ⟨_, rfl, k _ _ (Same.refl H) (.int _)⟩)
  · cases hz
    obtain ⟨v, rfl, rv⟩ := hd.one
    obtain rfl := rv.bool
    exact call_int1 pins s σ H _ us Q I r (.inr ⟨_, rfl, k _ _ (Same.refl H) (.int _)⟩)
  · split at hz
    · rename_i hl
      obtain ⟨n, hn, rfl⟩ := Option.map_eq_some_iff.mp hz
      obtain ⟨v, rfl, rv⟩ := hd.one
      obtain rfl := rv.strv
      exact call_int_str pins s σ H _ us Q I r ⟨_, n, rfl, hn, hl, k _ _ (Same.refl H) (.int _)⟩
    · cases hz
  · cases hz
def gStr : List D → Option D
  | [.int i] => if i.natAbs.log2 < 1920 then some (.str (toString i)) else none
  | [.bool b] => some (.str (if b = true then "True" else "False"))
  | [.str x] => some (.str x)
  | _ => none
theorem cStr : CallR X (.type "str") (cD X.K gStr) := by
  intro pins s σ H vs us Q I r ⟨ds, z, hd, hz, k⟩
  unfold gStr at hz
  split at hz
  · split at hz
    · rename_i hl
      cases hz
      obtain ⟨v, rfl, rv⟩ := hd.one
      obtain rfl := rv.intv
      exact call_str_int pins s σ H _ us Q I r ⟨_, rfl, hl, k _ _ (Same.refl H) (.str _)⟩
    · cases hz
  · cases hz
    obtain ⟨v, rfl, rv⟩ := hd.one
    obtain rfl := rv.bool
    obtain ⟨u, rfl, r1⟩ := vals1 r
    cases r1
    exact PySem.P.str_of_bool ⟨.str _, H, I.tok _, ⟨_, rfl⟩, k _ _ (Same.refl H) (.str _)⟩
  · cases hz
    obtain ⟨v, rfl, rv⟩ := hd.one
    obtain rfl := rv.strv
    exact SkE.call_str_str pins s σ H _ us Q I r ⟨_, rfl, k _ _ (Same.refl H) (.str _)⟩
  · cases hz
def gOrd : List D → Option D
  | [.str x] => match x.cps.toList with
    | [c] => some (.int c)
    | _ => none
  | _ => none
theorem cOrd : CallR X (.builtin "ord") (cD X.K gOrd) := by
  intro pins s σ H vs us Q I r ⟨ds, z, hd, hz, k⟩
  unfold gOrd at hz
  split at hz
  · split at hz
    · rename_i c hc
      cases hz
      obtain ⟨v, rfl, rv⟩ := hd.one
      obtain rfl := rv.strv
      have hx := str_one hc
      subst hx
      exact call_ord pins s σ H _ us Q I r ⟨_, rfl, rfl, k _ _ (Same.refl H) (.int _)⟩
    · cases hz
  · cases hz
/-! ### isinstance -/
def tyName : D → String
  | .none => "NoneType"
  | .bool _ => "bool"
  | .int _ => "int"
  | .str _ => "str"
  | .list _ => "list"
  | .tuple _ => "tuple"
  | .dict _ => "dict"
def dIs (T : String) : D → Option D
  | .none => some (.bool false)
  | .bool _ => some (.bool (T == "int" || T == "bool"))
  | .int _ => some (.bool (T == "int"))
  | .str _ => some (.bool (T == "str"))
  | .list _ => some (.bool (T == "list"))
  | .tuple _ => some (.bool (T == "tuple"))
  | .dict _ => none
/-- the five types asked for -/
def IsTy (T : String) : Prop := T = "int" ∨ T = "bool" ∨ T = "str" ∨ T = "list" ∨ T = "tuple"
theorem tyx_of {K : Fg} {H : Hp} {v : V} {d : D} (h : Rep K H v d) (n : ∀ kvs, d ≠ .dict kvs) : TyX K H v (.type (tyName d)) := by
  cases h with
  | non => exact .base .non
  | bl b => exact .base (.bl b)
  | int i => exact .base (.int i)
  | str x => exact .base (.str x)
  | lst h r =>
    rcases h with ⟨o, h⟩ | ⟨o, its, n, h, c, _⟩
    · exact .base (.frz h)
    · exact .kList h c
  | tup h r =>
    rcases h with (h | ⟨o, h⟩) | ⟨o, its, n, h, c, _⟩
    · exact .base (.tup h)
    · exact .fTuple h
    · exact .kTuple h c
  | dK h r => exact absurd rfl (n _)
  | dT h r => exact absurd rfl (n _)
theorem kit_is {K : Fg} {T : String} (hT : IsTy T) {d z : D} (h : dIs T d = some z) : ∃ b, z = .bool b ∧ PySem.W.kitOne K (.type (tyName d)) (.type T) = some b ∧ ∀ kvs, d ≠ .dict kvs := by
  rcases hT with rfl | rfl | rfl | rfl | rfl <;> cases d <;> first | (cases h; done) | (cases h; exact ⟨_, rfl, kit_ty (by simp only [tyName]; decide +kernel), fun _ z => (nomatch z)⟩)
theorem xis {T : String} {x : Str} {p p2 : Pos} (hT : IsTy T) (ha : PE X a (tD X.K f)) (hm : X.mg "isinstance" = none) (hmT : X.mg x = none) (hv : bootBuiltins x = some (.type T)) (hgT : Gl X x := by rfl) (hnT : x ≠ "__name__" := by decide) (hdT : (x == ("__debug__" : Str)) = false := by decide) (hg : Gl X "isinstance" := by rfl) (hv2 : bootBuiltins "isinstance" = some (.builtin "isinstance") := by decide +kernel)
    (he : starEach [a, .Name x p2] X.env = (false, eval a X.env) :: starEach [.Name x p2] X.env := by rfl) (hpl : (backTo pos (starEach [.Name x p2] X.env)).any (·.1) = false := by rfl) (he2 : starEach [.Name x p2] X.env = (false, eval (.Name x p2) X.env) :: starEach [] X.env := by rfl) :
    PE X (.Call (.Name "isinstance" p) [a, .Name x p2] [] pos) (tD X.K (eUn (dIs T) f)) := by
  refine (pe_callB call_isi hg hm hv2 (pa_cons ha (pa_cons (pe_bltn (v := .ty T) hgT hmT hv rfl hnT hdT) pa_nil he2) he) (by decide) (by decide) he hpl).imp fun σ H Q q => ?_
  obtain ⟨fx, ss, d, s3, fr, e, k⟩ := q
  obtain ⟨y, s1, e1, e⟩ := bind_ok e
  obtain ⟨eg, rfl⟩ := of_ok e
  refine ⟨fx, ss, y, _, fr, e1, fun v H1 k1 f1 r1 => ?_⟩
  obtain ⟨bb, rfl, h1, h2⟩ := kit_is (K := X.K) hT eg
  exact ⟨v, .ty T, _, _, bb, rfl, .ty T, tyx_of r1 h2, h1, k _ _ k1 f1 (.bl _)⟩
/-! ### sorted -/
def sortOk (ds : List D) : Bool :=
  ds.all fun d => ds.all fun e => alike d e
def sortKind (ds : List D) : Bool :=
  (ds.all fun d => match d with | .tuple (_ :: _) => true | _ => false) || ds.all fun d => match d with | .none => false | .tuple _ => false | _ => true
theorem sortKind_of {ds : List D} (h : sortKind ds = true) : PySem.W.Sortable ds := by
  unfold sortKind at h
  rw [Bool.or_eq_true] at h
  rcases h with h | h
  · refine .inl fun d hd => ?_
    have q := List.all_eq_true.mp h d hd
    cases d with
    | tuple xs => cases xs with
      | nil => simp at q
      | cons x r => exact ⟨x, r, rfl⟩
    | _ => simp at q
  · refine .inr fun d hd => ?_
    have q := List.all_eq_true.mp h d hd
    cases d <;> simp at q <;> exact ⟨fun z => (nomatch z), fun _ z => (nomatch z)⟩
abbrev sortD (ds : List D) : List D := ds.mergeSort (PySem.W.dataLe false id)
def gSorted : List D → Option O
  | [.list ds] => if sortOk ds = true ∧ sortKind ds = true ∧ PyData.plainAll ds = true ∧ PyData.depthAll ds ≤ 60 then some (.lst (sortD ds)) else none
  | _ => none
theorem depth_mem : ∀ {ds : List D} {d : D}, d ∈ ds → d.depth ≤ PyData.depthAll ds
  | x :: xs, d, h => by
    rw [PyData.depthAll]
    rcases List.mem_cons.mp h with rfl | h
    · exact Nat.le_max_left _ _
    · exact Nat.le_trans (depth_mem h) (Nat.le_max_right _ _)
theorem each_of {pins : List (Addr × Obj)} {σ : St} {H : Hp} {s : Shared} (I : Inv X pins σ H s) : ∀ {vs : List V} {us : List Value} {ds : List D}, RepAll X.K H vs ds → Vals vs us → PyData.plainAll ds = true →
    EachIs (fun u d => ∃ v, RelV v u ∧ Rep X.K H v d) us ds ∧ EachIs (fun u d => ∃ as, Reads s.heap u (id d) as) us ds
  | _, _, _, .nil, .nil, _ => ⟨.nil, .nil⟩
  | _, _, _, .cons h r, .cons rv rr, n => by
    rw [PyData.plainAll, Bool.and_eq_true] at n
    obtain ⟨e1, e2⟩ := each_of I r rr n.2
    exact ⟨.cons ⟨_, rv, h⟩ e1, .cons (h.reads I n.1 rv) e2⟩
theorem each_back {H : Hp} {K : Fg} : ∀ {us : List Value} {ds : List D}, EachIs (fun u d => ∃ v, RelV v u ∧ Rep K H v d) us ds → ∃ vs, Vals vs us ∧ RepAll K H vs ds
  | _, _, .nil => ⟨[], .nil, .nil⟩
  | _, _, .cons ⟨v, h1, h2⟩ t => by
    obtain ⟨vs, g1, g2⟩ := each_back t
    exact ⟨v :: vs, .cons h1 g1, .cons h2 g2⟩
theorem cSortedN (hu : X.A.units + 64 < cLine) : CallR X (.builtin "sorted") (cDN X.K gSorted) := by
  intro pins s σ H vs us Q I r ⟨ds, z, hd, hz, k⟩
  unfold gSorted at hz
  split at hz
  · rename_i xs
    split at hz
    · rename_i hc
      cases hz
      obtain ⟨v, rfl, rv⟩ := hd.one
      obtain ⟨a, ws, rfl, h1, r1⟩ := rv.lstv
      obtain ⟨its, rw_, hl, hzl⟩ := I.list h1.sq
      rw [Vals.ref1 r]
      obtain ⟨e1, e2⟩ := each_of I r1 rw_ hc.2.2.1
      have hal : PySem.W.AllAlike (xs.map id) := fun d hd d' hd' => by
        rw [List.map_id] at hd hd'
        exact List.all_eq_true.mp (List.all_eq_true.mp hc.1 d hd) d' hd'
      refine PySem.W.sorted_data (enc := id) hl.isList e1 e2 hal (by rw [List.map_id]; exact sortKind_of hc.2.1) (by rw [← r1.len]; exact hzl) (fun d hd => ?_) fun out hlen hout => ?_
      · have := depth_mem hd
        show X.A.units + 2 + d.depth < cLine
        omega
      · obtain ⟨zs, q1, q2⟩ := each_back hout
        obtain ⟨ep, he'⟩ := PyProof.Rows.sortedAll_at s.heap its out.toArray
        have hzs : zs.length ≤ sizeLine := by rw [q1.length, hlen, ← r1.len]; exact hzl
        exact ⟨.ref _, upd H (s.heap.objs.size + 1) (.lst zs), I.laid (t' := s.toks) (fun _ _ => PyProof.Rows.sortedAll_old) (Nat.le_succ _) ⟨hzs, out, ep, q1, he'⟩, rfl,
          k _ _ (I.hok.fresh (Nat.le_succ _)) (same_new (I.hok.fresh (Nat.le_succ _))) ⟨zs, upd_same, q2.kp (.same (same_new (I.hok.fresh (Nat.le_succ _))))⟩⟩
    · cases hz
  · cases hz
end
end Dt

/-! Dt7: what is walked; list comprehensions, by data. -/
namespace Dt
open PySem PySem.Spec L2
open PyProof.Rows hiding St
open RZ
/-! ### a frame's objects lent to a block -/
def lendS : Sl → Sl
  | .own o => .bor o
  | s => s
def lend (ss : SS) : SS := ss.map lendS
def unlendS (a b : Sl) : Sl := match a, b with
  | .own _, .bor o => .own o
  | .bor _, .bor o => .bor o
  | _, .imm d => .imm d
  | _, _ => .un
def unlend (a b : SS) : SS := List.zipWith unlendS a b
def fxr (ss : SS) (σ : St) (H : Hp) : Fx := ⟨H, fun i => match (ss[i]?).bind Sl.obj, σ[i]? with
  | some _, some (some (.ref p)) => some p
  | _, _ => none⟩
theorem fxr_some {ss : SS} {σ : St} {H : Hp} {i : Nat} {p : Addr} (h : (fxr ss σ H).P i = some p) : ∃ s o, ss[i]? = some s ∧ s.obj = some o ∧ σ[i]? = some (some (.ref p)) := by
  unfold fxr at h
  simp only at h
  split at h
  · rename_i o q ho hs
    cases h
    obtain ⟨s, a, b⟩ := Option.bind_eq_some_iff.mp ho
    exact ⟨s, o, a, b, hs⟩
  · cases h
theorem fxr_of {ss : SS} {σ : St} {H : Hp} {i : Nat} {p : Addr} {s : Sl} {o : O} (h1 : ss[i]? = some s) (h2 : s.obj = some o) (h3 : σ[i]? = some (some (.ref p))) : (fxr ss σ H).P i = some p := by
  unfold fxr
  simp only [h1, h3, Option.bind_some, h2]
theorem lend_get {ss : SS} {i : Nat} {s : Sl} (h : (lend ss)[i]? = some s) : ∃ t, ss[i]? = some t ∧ s = lendS t := by
  unfold lend at h
  rw [List.getElem?_map] at h
  obtain ⟨t, a, b⟩ := Option.map_eq_some_iff.mp h
  exact ⟨t, a, b.symm⟩
theorem lend_obj (t : Sl) : (lendS t).obj = t.obj := by cases t <;> rfl
section
variable {K : Fg} {fx : Fx} {ss s2 : SS} {σ : St} {H H2 : Hp}
theorem FR.lend (f : FR K fx ss σ H) : FR K (fxr ss σ H) (lend ss) σ H := by
  refine ⟨by rw [Dt.lend, List.length_map]; exact f.len, Kp.refl H, fun a o e _ => e, fun a e => e, fun i sl e => ?_, fun i j p si sj oi oj ei ej eoi eoj hi hj => ?_⟩
  · obtain ⟨t, a, rfl⟩ := lend_get e
    have q := f.slot i t a
    cases t with
    | un => trivial
    | imm d => exact q
    | own o => obtain ⟨p, b, c, d⟩ := q; exact ⟨p, b, c, fxr_of a rfl b⟩
    | bor o => obtain ⟨p, b, c, d⟩ := q; exact ⟨p, b, c, fxr_of a rfl b⟩
  · obtain ⟨t, a, rfl⟩ := lend_get ei
    obtain ⟨u, b, rfl⟩ := lend_get ej
    exact f.dis i j p t u oi oj a b ((lend_obj t).symm.trans eoi) ((lend_obj u).symm.trans eoj) hi hj
theorem unlend_get {i : Nat} {s : Sl} (h : (unlend ss s2)[i]? = some s) : ∃ t u, ss[i]? = some t ∧ s2[i]? = some u ∧ s = unlendS t u := by
  unfold unlend at h
  rw [List.getElem?_zipWith] at h
  split at h
  · rename_i t u a b
    exact ⟨t, u, a, b, (Option.some.inj h).symm⟩
  · cases h
theorem unlend_obj {t u : Sl} {o : O} (h : (unlendS t u).obj = some o) : u = .bor o ∧ ((∃ x, t = .own x) ∨ ∃ x, t = .bor x) := by
  cases t <;> cases u <;> first | (cases h; done) | (cases h; exact ⟨rfl, .inl ⟨_, rfl⟩⟩) | (cases h; exact ⟨rfl, .inr ⟨_, rfl⟩⟩)
theorem FR.unlend {τ : St} (f : FR K fx ss σ H) (g : FR K (fxr ss σ H) s2 τ H2) (k : Kp H H2) (hl : τ.length = σ.length := by rfl) : FR K fx (unlend ss s2) τ H2 := by
  refine ⟨?_, f.kp.trans k, fun a o e hP => g.rest a o (f.rest a o e hP) fun i z => ?_, fun a e => f.there a (g.there a e), fun i sl e => ?_, fun i j p si sj oi oj ei ej eoi eoj hi hj => ?_⟩
  · have h1 := f.len
    have h2 := g.len
    unfold Dt.unlend
    rw [List.length_zipWith]
    omega
  · obtain ⟨s, o', h1, h2, h3⟩ := fxr_some z
    obtain ⟨p, a1, a2, a3⟩ := (f.slot i s h1).obj h2
    rw [h3] at a1
    cases a1
    rcases a3 with a3 | a3
    · rw [e] at a3; cases a3
    · exact hP i a3
  · obtain ⟨t, u, a, b, rfl⟩ := unlend_get e
    have q1 := f.slot i t a
    have q2 := g.slot i u b
    cases t with
    | un => cases u <;> first | exact q2 | trivial
    | imm d => cases u <;> first | exact q2 | trivial
    | own o => cases u with
      | un => trivial
      | imm d => exact q2
      | own x => trivial
      | bor x =>
        obtain ⟨p, a1, a2, a3⟩ := q1
        obtain ⟨p2, b1, b2, b3⟩ := q2
        obtain ⟨_, _, _, _, z⟩ := fxr_some b3
        rw [a1] at z
        cases z
        exact ⟨p, b1, b2, a3⟩
    | bor o => cases u with
      | un => trivial
      | imm d => exact q2
      | own x => trivial
      | bor x =>
        obtain ⟨p, a1, a2, a3⟩ := q1
        obtain ⟨p2, b1, b2, b3⟩ := q2
        obtain ⟨_, _, _, _, z⟩ := fxr_some b3
        rw [a1] at z
        cases z
        exact ⟨p, b1, b2, a3⟩
  · obtain ⟨t, u, a, b, rfl⟩ := unlend_get ei
    obtain ⟨t', u', a', b', rfl⟩ := unlend_get ej
    obtain ⟨rfl, _⟩ := unlend_obj eoi
    obtain ⟨rfl, _⟩ := unlend_obj eoj
    exact g.dis i j p _ _ oi oj b b' rfl rfl hi hj
/-- what is lent are slots of ours -/
theorem unlend_old {i : Nat} {s : Sl} {o : O} (h : (unlend ss s2)[i]? = some s) (ho : s.obj = some o) : ∃ t u, ss[i]? = some t ∧ t.obj = some u := by
  obtain ⟨t, u, a, b, rfl⟩ := unlend_get h
  rcases unlend_obj ho with ⟨_, ⟨x, rfl⟩ | ⟨x, rfl⟩⟩
  · exact ⟨_, x, a, rfl⟩
  · exact ⟨_, x, a, rfl⟩
/-! ### slots forgotten, and given back -/
def wipeS (ss : SS) : List Nat → SS
  | [] => ss
  | v :: vs => (wipeS ss vs).set v .un
theorem FR.wipe (f : FR K fx ss σ H) : ∀ vs : List Nat, FR K fx (wipeS ss vs) (L2.wipe σ vs) H
  | [] => f
  | v :: vs => (f.wipe vs).un
def keepS : Sl → Sl
  | .imm d => .imm d
  | _ => .un
def backF (vs : List Nat) : Nat → SS → SS → SS
  | i, s :: ss, t :: ts => (if i ∈ vs then keepS s else t) :: backF vs (i + 1) ss ts
  | _, _, _ => []
def backS (vs : List Nat) (ss s2 : SS) : SS := backF vs 0 ss s2
theorem backF_get {vs : List Nat} : ∀ {i : Nat} {ss ts : SS} {j : Nat} {x : Sl}, (backF vs i ss ts)[j]? = some x → ∃ s t, ss[j]? = some s ∧ ts[j]? = some t ∧ x = if i + j ∈ vs then keepS s else t
  | i, s :: ss, t :: ts, 0, x, h => ⟨s, t, rfl, rfl, (Option.some.inj h).symm⟩
  | i, s :: ss, t :: ts, j + 1, x, h => by
    obtain ⟨u, w, a, b, c⟩ := backF_get (i := i + 1) (ss := ss) (ts := ts) (j := j) h
    exact ⟨u, w, a, b, by rw [c, Nat.add_assoc, Nat.add_comm 1 j]⟩
  | i, [], ts, j, x, h => by cases ts <;> cases h
  | i, s :: ss, [], j, x, h => by cases h
theorem backF_len {vs : List Nat} : ∀ {i : Nat} {ss ts : SS}, ss.length = ts.length → (backF vs i ss ts).length = ss.length
  | i, s :: ss, t :: ts, h => congrArg (· + 1) (backF_len (i := i + 1) (Nat.succ.inj h))
  | i, [], [], h => rfl
  | i, [], t :: ts, h => by cases h
  | i, s :: ss, [], h => by cases h
/-- the block's own slots stand as they stood -/
theorem FR.back {vs : List Nat} (f : FR K fx ss σ H) (k : Kp H H2) (g : FR K fx s2 (L2.wipe σ vs) H2) : FR K fx (backS vs ss s2) σ H2 := by
  have l1 := f.len
  have l2 := g.len
  rw [wipe_length] at l2
  have get : ∀ (j : Nat) (x : Sl), (backS vs ss s2)[j]? = some x → (∃ s, ss[j]? = some s ∧ x = keepS s) ∨ (j ∉ vs ∧ s2[j]? = some x) := fun j x h => by
    obtain ⟨s, t, a, b, c⟩ := backF_get h
    rw [Nat.zero_add] at c
    by_cases hj : j ∈ vs
    · rw [if_pos hj] at c
      exact .inl ⟨s, a, c⟩
    · rw [if_neg hj] at c
      exact .inr ⟨hj, by rw [b, c]⟩
  have same : ∀ j, j ∉ vs → (L2.wipe σ vs)[j]? = σ[j]? := fun j h => by rw [wipe_get, if_neg h]
  refine ⟨?_, g.kp, g.rest, g.there, fun i sl e => ?_, fun i j p si sj oi oj ei ej eoi eoj hi hj => ?_⟩
  · unfold backS
    rw [backF_len (by omega)]
    exact l1
  · rcases get i sl e with ⟨s, a, rfl⟩ | ⟨n, a⟩
    · have q := f.slot i s a
      cases s with
      | imm d => obtain ⟨v, b, c⟩ := q; exact ⟨v, b, c.kp k⟩
      | un => trivial
      | own o => trivial
      | bor o => trivial
    · have q := g.slot i sl a
      rw [same i n] at q
      exact q
  · rcases get i si ei with ⟨s, a, rfl⟩ | ⟨n, a⟩
    · cases s <;> cases eoi
    · rcases get j sj ej with ⟨s, b, rfl⟩ | ⟨m, b⟩
      · cases s <;> cases eoj
      · exact g.dis i j p si sj oi oj a b eoi eoj (by rw [same i n]; exact hi) (by rw [same j m]; exact hj)
theorem wipeS_old : ∀ {vs : List Nat} {i : Nat} {s : Sl} {o : O}, (wipeS ss vs)[i]? = some s → s.obj = some o → ss[i]? = some s
  | [], _, _, _, h, _ => h
  | v :: vs, i, s, o, h, ho => by
    rcases get_set_eq h with ⟨rfl, rfl⟩ | ⟨_, h⟩
    · cases ho
    · exact wipeS_old h ho
end
/-! ### comprehensions -/
def turnF (vs : List Nat) (g : GF) (t : FB) (e : FE) (d : D) (ss : SS) : Option (Option D × SS) :=
  match g d (lend ss) with
  | none => none
  | some s1 => match t s1 with
    | .no => none
    | .ok false s2 => some (none, unlend ss (wipeS s2 vs))
    | .ok true s2 => match e s2 with
      | .no => none
      | .ok x s3 => some (some x, unlend ss (wipeS s3 vs))
def compF (vs : List Nat) (g : GF) (t : FB) (e : FE) : List D → SS → Option (List D × SS)
  | [], ss => some ([], ss)
  | d :: r, ss => match turnF vs g t e d ss with
    | none => none
    | some (o, s1) => match compF vs g t e r s1 with
      | none => none
      | some (xs, s2) => some (o.toList ++ xs, s2)
def nLc (vs : List Nat) (src : FL) (g : GF) (t : FB) (e : FE) : FN := fun ss => (src ss).bind fun ds s1 =>
  match compF vs g t e ds (wipeS s1 vs) with
    | some (xs, s2) => if xs.length ≤ sizeLine then .ok (.lst xs) (backS vs s1 s2) else .no
    | none => .no
def bYes : FB := fun ss => .ok true ss
section
variable {X : Cx}
theorem tyes : PTs X [] (tT X.K bYes) := ⟨fun pins s σ H Q I q => pts_nil.run pins s σ H Q I (by
  obtain ⟨fx, ss, b, s1, f, e, k⟩ := q
  cases e
  exact k H (Kp.refl H) f)⟩
theorem wipe_wipe {σ : St} {vs : List Nat} : L2.wipe (L2.wipe σ vs) vs = L2.wipe σ vs := by
  apply List.ext_getElem?
  intro j
  rw [wipe_get, wipe_get, wipe_length]
  by_cases h : j ∈ vs
  · rw [if_pos h, if_pos h]
  · rw [if_neg h, if_neg h]
/-- one loop of a comprehension; Dl: the list that is made -/
theorem loop_read {vs : List Nat} {gg : GF} {t : FB} {e : FE} {σ : St} {H1 : Hp} {K : Fg} {fx : Fx} {sI sE : SS} {ds xs acc0 : List D} {a0 : List V} {Dl : Addr} {J : It} {R : Hp → Prop} (w : Walk K J ds H1) (fw : FR K fx sI (L2.wipe σ vs) H1) (nw : NewAt fx sI (L2.wipe σ vs) Dl)
    (hD : H1 Dl = some (.lst a0)) (r0 : RepAll K H1 a0 acc0) (hcomp : compF vs gg t e ds sI = some (xs, sE)) (hsz : acc0.length + xs.length ≤ sizeLine)
    (hR : ∀ H2 a1, Kp H1 H2 → FR K fx sE (L2.wipe σ vs) H2 → (∀ (j : Nat) (s : Sl) (o : O), sE[j]? = some s → s.obj = some o → ∃ t u, sI[j]? = some t ∧ t.obj = some u) → H2 Dl = some (.lst a1) → RepAll K H2 a1 (acc0 ++ xs) → R H2) :
    ∃ W : Nat → Nat → Hp → Prop, (∃ m, W 0 m H1) ∧ ∀ i m H, W i m H → (J.stop i H ∧ R H) ∨ (J.go i H ∧ ∃ Nx : Hp → Prop, (∀ H', Nx H' → ∃ m', m' < m ∧ W (i + 1) m' H') ∧ ∀ x H', J.yld i H x H' → gD K gg vs x (L2.wipe σ vs) H' fun σ2 H2 => L2.wipe σ2 vs = L2.wipe σ vs ∧ tT K t σ2 H2 fun b H3 =>
      if b = true then tD K e σ2 H3 fun y H4 => ∃ acc, H4 Dl = some (.lst acc) ∧ acc.length < sizeLine ∧ Nx (upd H4 Dl (.lst (acc ++ [y]))) else Nx H3) := by
  refine ⟨fun i m H2 => m = ds.length - i ∧ i ≤ ds.length ∧ Kp H1 H2 ∧ ∃ ssi dn accV rest, FR K fx ssi (L2.wipe σ vs) H2 ∧ (∀ (j : Nat) (s : Sl) (o : O), ssi[j]? = some s → s.obj = some o → ∃ t u, sI[j]? = some t ∧ t.obj = some u) ∧
      H2 Dl = some (.lst accV) ∧ RepAll K H2 accV (acc0 ++ dn) ∧ compF vs gg t e (ds.drop i) ssi = some (rest, sE) ∧ dn ++ rest = xs,
    ⟨ds.length, by omega, Nat.zero_le _, Kp.refl _, sI, [], a0, xs, fw, fun j s o a b => ⟨s, o, a, b⟩, hD, by rw [List.append_nil]; exact r0, hcomp, rfl⟩, fun i m H2 ⟨em, hle, k2, ssi, dn, accV, rest, f2, old, hDl, ra, hc2, hx⟩ => ?_⟩
  have nr : ∀ (j : Nat) (s : Sl) (o : O), ssi[j]? = some s → s.obj = some o → (L2.wipe σ vs)[j]? ≠ some (some (.ref Dl)) := fun j s o a b => by
    obtain ⟨t', u, c, d⟩ := old j s o a b
    exact nw.2 j t' u c d
  have wi := w i H2 k2
  by_cases hlt : i < ds.length
  · have ed : ds.drop i = ds[i] :: ds.drop (i + 1) := List.drop_eq_getElem_cons hlt
    rw [ed] at hc2
    unfold compF at hc2
    split at hc2
    · cases hc2
    rename_i oo sN hturn
    split at hc2
    · cases hc2
    rename_i xs' sE' hrest
    cases hc2
    obtain ⟨go, yl⟩ := wi.1 ds[i] (List.getElem?_eq_getElem hlt)
    refine .inr ⟨go, fun H5 => Kp H1 H5 ∧ ∃ ssi dn accV rest, FR K fx ssi (L2.wipe σ vs) H5 ∧ (∀ (j : Nat) (s : Sl) (o : O), ssi[j]? = some s → s.obj = some o → ∃ t u, sI[j]? = some t ∧ t.obj = some u) ∧
      H5 Dl = some (.lst accV) ∧ RepAll K H5 accV (acc0 ++ dn) ∧ compF vs gg t e (ds.drop (i + 1)) ssi = some (rest, sE) ∧ dn ++ rest = xs, fun H5 ⟨a, b⟩ => ⟨ds.length - (i + 1), by omega, rfl, hlt, a, b⟩, fun x H3 hy => ?_⟩
    obtain ⟨sm, rp⟩ := yl x H3 hy
    have f3 := f2.same sm
    have fl3 := f3.lend
    have hD3 : H3 Dl = some (.lst accV) := sm _ _ hDl
    have keepD : ∀ (s : SS) (τ : St) (H4 : Hp), FR K (fxr ssi (L2.wipe σ vs) H3) s τ H4 → H4 Dl = some (.lst accV) := fun s τ H4 g => g.rest Dl _ hD3 fun j z => by
      obtain ⟨s', o', a, b, c⟩ := fxr_some z
      exact nr j s' o' a b c
    have old2 : ∀ (s2 : SS) (j : Nat) (s : Sl) (o : O), (unlend ssi s2)[j]? = some s → s.obj = some o → ∃ t u, sI[j]? = some t ∧ t.obj = some u := fun s2 j s o a b => by
      obtain ⟨t', u, c, d⟩ := unlend_old a b
      exact old j t' u c d
    unfold turnF at hturn
    cases eg : gg ds[i] (lend ssi) with
    | none => rw [eg] at hturn; cases hturn
    | some s4 =>
      rw [eg] at hturn
      simp only at hturn
      refine ⟨_, lend ssi, ds[i], s4, fl3, rp, eg, fun σ2 H4 wq0 k4 f4 => ?_⟩
      have wq := wq0.trans wipe_wipe
      refine ⟨wq, ?_⟩
      cases et : t s4 with
      | no => rw [et] at hturn; cases hturn
      | ok b s5 =>
        rw [et] at hturn
        refine ⟨_, s4, b, s5, f4, et, fun H5 k5 f5 => ?_⟩
        have kk : Kp H2 H5 := (Kp.same sm).trans (k4.trans k5)
        cases b with
        | false =>
          simp only [Option.some.injEq, Prod.mk.injEq] at hturn
          obtain ⟨rfl, rfl⟩ := hturn
          refine iteF ⟨k2.trans kk, _, dn, accV, xs', ?_, old2 _, keepD _ _ _ f5, ra.kp kk, hrest, hx⟩
          have g5 := f5.wipe vs
          rw [wq] at g5
          exact f3.unlend g5 (k4.trans k5)
        | true =>
          simp only at hturn
          cases ee : e s5 with
          | no => rw [ee] at hturn; cases hturn
          | ok y s6 =>
            rw [ee] at hturn
            simp only [Option.some.injEq, Prod.mk.injEq] at hturn
            obtain ⟨rfl, rfl⟩ := hturn
            refine iteT ⟨_, s5, y, s6, f5, ee, fun v H6 k6 f6 r6 => ?_⟩
            have hD6 := keepD _ _ _ f6
            have k36 : Kp H3 H6 := (k4.trans k5).trans k6
            have k67 : Kp H6 (upd H6 Dl (.lst (accV ++ [v]))) := Kp.upd hD6 loose_lst
            have g6 := f6.wipe vs
            rw [wq] at g6
            have f7 := f3.unlend g6 k36
            have kall : Kp H2 H6 := (Kp.same sm).trans k36
            have hlen := congrArg List.length hx
            simp only [List.length_append, Option.toList_some, List.length_cons, List.length_nil] at hlen
            refine ⟨accV, hD6, ?_, (k2.trans kall).trans k67, _, dn ++ [y], accV ++ [v], xs', f7.lock ⟨nw.1, fun j s o a b => ?_⟩ hD6 loose_lst, old2 _, upd_same, ?_, hrest, ?_⟩
            · rw [ra.len, List.length_append]
              omega
            · obtain ⟨t', u, c, d⟩ := unlend_old a b
              exact nr j t' u c d
            · rw [← List.append_assoc]
              exact ((ra.kp kall).append (.cons r6 .nil)).kp k67
            · rw [List.append_assoc]
              exact hx
  · have ed : ds.drop i = [] := List.drop_eq_nil_of_le (by omega)
    rw [ed] at hc2
    unfold compF at hc2
    cases hc2
    rw [List.append_nil] at hx
    subst hx
    exact .inl ⟨wi.2 (by omega), hR H2 accV k2 f2 old hDl ra⟩
theorem back_new {vs : List Nat} {σ : St} {fx : Fx} {s1 sE : SS} {Dl : Addr} (n0 : fx.H0 Dl = none) (nr : ∀ (j : Nat) (s : Sl) (o : O), sE[j]? = some s → s.obj = some o → (L2.wipe σ vs)[j]? ≠ some (some (.ref Dl))) : NewAt fx (backS vs s1 sE) σ Dl := by
  refine ⟨n0, fun j s o a b => ?_⟩
  obtain ⟨s', t', a1, a2, a3⟩ := backF_get a
  rw [Nat.zero_add] at a3
  by_cases hj : j ∈ vs
  · rw [if_pos hj] at a3
    subst a3
    cases s' <;> cases b
  · rw [if_neg hj] at a3
    subst a3
    have q := nr j _ o a2 b
    rw [wipe_get, if_neg hj] at q
    exact q
theorem lc_read {vs : List Nat} {fl : FL} {gg : GF} {t : FB} {e : FE} {σ : St} {H : Hp} {Q : VK} {K : Fg} (q : tN K (nLc vs fl gg t e) σ H Q) : tLc (iD K fl) (gD K gg vs) (tT K t) (tD K e) vs σ H Q := by
  obtain ⟨fx, ss, o, s3, f, eq, k⟩ := q
  obtain ⟨ds, s1, e1, eq⟩ := bind_ok eq
  split at eq
  rotate_left
  · cases eq
  rename_i xs sE hcomp
  split at eq
  rotate_left
  · cases eq
  rename_i hsz
  cases eq
  refine ⟨fx, ss, ds, s1, f, e1, fun J H1 k1 f1 w Dl hD => ?_⟩
  have fw : FR K fx (wipeS s1 vs) (L2.wipe σ vs) H1 := f1.wipe vs
  have nw : NewAt fx (wipeS s1 vs) (L2.wipe σ vs) Dl := fw.newAt hD
  have k1' : Kp H1 (upd H1 Dl (.lst [])) := .same (same_new hD)
  refine loop_read (R := fun H2 => Q (.ref Dl) H2) (fun i H' kk => w i H' (k1'.trans kk)) (fw.new hD) nw upd_same (.nil : RepAll K _ [] []) hcomp (by simpa using hsz) fun H2 a1 k2 f2 old hDl ra => ?_
  have kk := k1'.trans k2
  exact k Dl H2 (k1.trans kk) (f1.back kk f2) ⟨a1, hDl, ra⟩ (back_new nw.1 fun j s o a b => by
    obtain ⟨t', u, c, d⟩ := old j s o a b
    exact nw.2 j t' u c d)
/-! two clauses -/
def turn2F (vs vs1 : List Nat) (g : GF) (t : FB) (src1 : FL) (g1 : GF) (t1 : FB) (e : FE) (d : D) (ss : SS) : Option (List D × SS) :=
  match g d (lend ss) with
  | none => none
  | some s1 => match t s1 with
    | .no => none
    | .ok false s2 => some ([], unlend ss (wipeS s2 vs))
    | .ok true s2 => match src1 s2 with
      | .no => none
      | .ok ds1 s3 => match compF vs1 g1 t1 e ds1 (wipeS (unlend ss s3) vs1) with
        | none => none
        | some (xs, sE) => some (xs, wipeS sE vs)
def comp2F (vs vs1 : List Nat) (g : GF) (t : FB) (src1 : FL) (g1 : GF) (t1 : FB) (e : FE) : List D → SS → Option (List D × SS)
  | [], ss => some ([], ss)
  | d :: r, ss => match turn2F vs vs1 g t src1 g1 t1 e d ss with
    | none => none
    | some (o, s1) => match comp2F vs vs1 g t src1 g1 t1 e r s1 with
      | none => none
      | some (xs, s2) => some (o ++ xs, s2)
def nLc2 (vs vs1 : List Nat) (src : FL) (g : GF) (t : FB) (src1 : FL) (g1 : GF) (t1 : FB) (e : FE) : FN := fun ss => (src ss).bind fun ds s1 =>
  match comp2F vs vs1 g t src1 g1 t1 e ds (wipeS s1 vs) with
    | some (xs, s2) => if xs.length ≤ sizeLine then .ok (.lst xs) (backS vs s1 s2) else .no
    | none => .no
theorem wipe_sub {σ τ : St} {vs vs1 : List Nat} (hv : ∀ i ∈ vs1, i ∈ vs) (h : L2.wipe σ vs1 = L2.wipe τ vs1) : L2.wipe σ vs = L2.wipe τ vs := by
  have hl : σ.length = τ.length := by
    have := congrArg List.length h
    rw [wipe_length, wipe_length] at this
    exact this
  apply List.ext_getElem?
  intro j
  rw [wipe_get, wipe_get, hl]
  by_cases hj : j ∈ vs
  · rw [if_pos hj, if_pos hj]
  · rw [if_neg hj, if_neg hj]
    have := congrArg (fun l => l[j]?) h
    simp only [wipe_get] at this
    rw [if_neg (fun z => hj (hv j z)), if_neg (fun z => hj (hv j z))] at this
    exact this
theorem lc2_read {vs vs1 : List Nat} {fl fl1 : FL} {gg gg1 : GF} {t t1 : FB} {e : FE} {σ : St} {H : Hp} {Q : VK} {K : Fg} (hv : ∀ i ∈ vs1, i ∈ vs) (q : tN K (nLc2 vs vs1 fl gg t fl1 gg1 t1 e) σ H Q) : tLc2 (iD K fl) (gD K gg vs) (tT K t) (iD K fl1) (gD K gg1 vs1) (tT K t1) (tD K e) vs vs1 σ H Q := by
  obtain ⟨fx, ss, o, s3, f, eq, k⟩ := q
  obtain ⟨ds, s1, e1, eq⟩ := bind_ok eq
  split at eq
  rotate_left
  · cases eq
  rename_i xs sE hcomp
  split at eq
  rotate_left
  · cases eq
  rename_i hsz
  cases eq
  refine ⟨fx, ss, ds, s1, f, e1, fun J H1 k1 f1 w Dl hD => ?_⟩
  have fw : FR K fx (wipeS s1 vs) (L2.wipe σ vs) H1 := f1.wipe vs
  have nw : NewAt fx (wipeS s1 vs) (L2.wipe σ vs) Dl := fw.newAt hD
  refine ⟨fun i m H2 => m = ds.length - i ∧ i ≤ ds.length ∧ Kp H1 H2 ∧ ∃ ssi dn accV rest, FR K fx ssi (L2.wipe σ vs) H2 ∧ (∀ (j : Nat) (s : Sl) (o : O), ssi[j]? = some s → s.obj = some o → ∃ t u, (wipeS s1 vs)[j]? = some t ∧ t.obj = some u) ∧
      H2 Dl = some (.lst accV) ∧ RepAll K H2 accV dn ∧ comp2F vs vs1 gg t fl1 gg1 t1 e (ds.drop i) ssi = some (rest, sE) ∧ dn ++ rest = xs,
    ⟨ds.length, by omega, Nat.zero_le _, .same (same_new hD), wipeS s1 vs, [], [], xs, fw.new hD, fun j s o a b => ⟨s, o, a, b⟩, upd_same, .nil, hcomp, rfl⟩, fun i m H2 ⟨em, hle, k2, ssi, dn, accV, rest, f2, old, hDl, ra, hc2, hx⟩ => ?_⟩
  have nr : ∀ (j : Nat) (s : Sl) (o : O), ssi[j]? = some s → s.obj = some o → (L2.wipe σ vs)[j]? ≠ some (some (.ref Dl)) := fun j s o a b => by
    obtain ⟨t', u, c, d⟩ := old j s o a b
    exact nw.2 j t' u c d
  have wi := w i H2 k2
  by_cases hlt : i < ds.length
  · have ed : ds.drop i = ds[i] :: ds.drop (i + 1) := List.drop_eq_getElem_cons hlt
    rw [ed] at hc2
    unfold comp2F at hc2
    split at hc2
    · cases hc2
    rename_i oo sN hturn
    split at hc2
    · cases hc2
    rename_i xs' sE' hrest
    cases hc2
    obtain ⟨go, yl⟩ := wi.1 ds[i] (List.getElem?_eq_getElem hlt)
    refine .inr ⟨go, fun H5 => Kp H1 H5 ∧ ∃ ssi dn accV rest, FR K fx ssi (L2.wipe σ vs) H5 ∧ (∀ (j : Nat) (s : Sl) (o : O), ssi[j]? = some s → s.obj = some o → ∃ t u, (wipeS s1 vs)[j]? = some t ∧ t.obj = some u) ∧
      H5 Dl = some (.lst accV) ∧ RepAll K H5 accV dn ∧ comp2F vs vs1 gg t fl1 gg1 t1 e (ds.drop (i + 1)) ssi = some (rest, sE) ∧ dn ++ rest = xs, fun H5 ⟨a, b⟩ => ⟨ds.length - (i + 1), by omega, rfl, hlt, a, b⟩, fun x H3 hy => ?_⟩
    obtain ⟨sm, rp⟩ := yl x H3 hy
    have f3 := f2.same sm
    have fl3 := f3.lend
    have hD3 : H3 Dl = some (.lst accV) := sm _ _ hDl
    have keepD : ∀ (s : SS) (τ : St) (H4 : Hp), FR K (fxr ssi (L2.wipe σ vs) H3) s τ H4 → H4 Dl = some (.lst accV) := fun s τ H4 g => g.rest Dl _ hD3 fun j z => by
      obtain ⟨s', o', a, b, c⟩ := fxr_some z
      exact nr j s' o' a b c
    unfold turn2F at hturn
    cases eg : gg ds[i] (lend ssi) with
    | none => rw [eg] at hturn; cases hturn
    | some s4 =>
      rw [eg] at hturn
      simp only at hturn
      refine ⟨_, lend ssi, ds[i], s4, fl3, rp, eg, fun σ2 H4 wq0 k4 f4 => ?_⟩
      have wq := wq0.trans wipe_wipe
      refine ⟨wq, ?_⟩
      cases et : t s4 with
      | no => rw [et] at hturn; cases hturn
      | ok b s5 =>
        rw [et] at hturn
        refine ⟨_, s4, b, s5, f4, et, fun H5 k5 f5 => ?_⟩
        have kk : Kp H2 H5 := (Kp.same sm).trans (k4.trans k5)
        cases b with
        | false =>
          simp only [Option.some.injEq, Prod.mk.injEq] at hturn
          obtain ⟨rfl, rfl⟩ := hturn
          refine iteF ⟨k2.trans kk, _, dn, accV, xs', ?_, fun j s o a b => ?_, keepD _ _ _ f5, ra.kp kk, hrest, hx⟩
          · have g5 := f5.wipe vs
            rw [wq] at g5
            exact f3.unlend g5 (k4.trans k5)
          · obtain ⟨t', u, c, d⟩ := unlend_old a b
            exact old j t' u c d
        | true =>
          simp only at hturn
          cases e4 : fl1 s5 with
          | no => rw [e4] at hturn; cases hturn
          | ok ds1 s6 =>
            rw [e4] at hturn
            simp only at hturn
            cases e5 : compF vs1 gg1 t1 e ds1 (wipeS (unlend ssi s6) vs1) with
            | none => rw [e5] at hturn; cases hturn
            | some pr =>
              obtain ⟨xs1, sE1⟩ := pr
              rw [e5] at hturn
              simp only [Option.some.injEq, Prod.mk.injEq] at hturn
              obtain ⟨rfl, rfl⟩ := hturn
              refine iteT ⟨_, s5, ds1, s6, f5, e4, fun J1 H6 k6 f6 w1 => ?_⟩
              have k36 : Kp H3 H6 := (k4.trans k5).trans k6
              have kall : Kp H2 H6 := (Kp.same sm).trans k36
              have l2 : σ2.length = (L2.wipe σ vs).length := by
                have := congrArg List.length wq
                rw [wipe_length, wipe_length] at this
                rw [wipe_length]
                exact this
              have fO := f3.unlend f6 k36 l2
              have fI := fO.wipe vs1
              have hD6 := keepD _ _ _ f6
              have hlen := congrArg List.length hx
              simp only [List.length_append] at hlen
              have oldO : ∀ (j : Nat) (s : Sl) (o : O), (unlend ssi s6)[j]? = some s → s.obj = some o → ∃ t u, ssi[j]? = some t ∧ t.obj = some u := fun j s o a b => unlend_old a b
              have nI : NewAt fx (wipeS (unlend ssi s6) vs1) (L2.wipe σ2 vs1) Dl := by
                refine ⟨nw.1, fun j s o a b z => ?_⟩
                have a' := wipeS_old a b
                obtain ⟨t', u, c, d⟩ := unlend_old a' b
                refine nr j t' u c d ?_
                obtain ⟨t2, u2, a2, b2, e2⟩ := unlend_get a'
                rw [e2] at b
                obtain ⟨e3, _⟩ := unlend_obj b
                rw [e3] at b2
                obtain ⟨p, p1, _, p3⟩ := f6.slot j _ b2
                obtain ⟨_, _, _, _, z2⟩ := fxr_some p3
                have z3 : σ2[j]? = some (some (.ref Dl)) := by
                  rw [wipe_get] at z
                  split at z
                  · split at z <;> cases z
                  · exact z
                rw [p1] at z3
                cases z3
                exact z2
              refine loop_read (R := fun H7 => Kp H1 H7 ∧ ∃ ssi dn accV rest, FR K fx ssi (L2.wipe σ vs) H7 ∧ (∀ (j : Nat) (s : Sl) (o : O), ssi[j]? = some s → s.obj = some o → ∃ t u, (wipeS s1 vs)[j]? = some t ∧ t.obj = some u) ∧
      H7 Dl = some (.lst accV) ∧ RepAll K H7 accV dn ∧ comp2F vs vs1 gg t fl1 gg1 t1 e (ds.drop (i + 1)) ssi = some (rest, sE) ∧ dn ++ rest = xs) w1 fI nI hD6 (ra.kp kall) e5 (by rw [← ra.len] at hlen ⊢; omega) fun H7 a1 k7 f7 old7 hD7 ra7 => ?_
              refine ⟨(k2.trans kall).trans k7, wipeS sE1 vs, dn ++ xs1, a1, xs', ?_, fun j s o a b => ?_, hD7, ra7, hrest, by rw [List.append_assoc]; exact hx⟩
              · have g := f7.wipe vs
                rw [wipe_sub hv wipe_wipe, wq] at g
                exact g
              · obtain ⟨t', u, c, d⟩ := old7 j s o (wipeS_old a b) b
                obtain ⟨t2, u2, c2, d2⟩ := oldO j t' u (wipeS_old c d) d
                exact old j t2 u2 c2 d2
  · have ed : ds.drop i = [] := List.drop_eq_nil_of_le (by omega)
    rw [ed] at hc2
    unfold comp2F at hc2
    cases hc2
    rw [List.append_nil] at hx
    subst hx
    exact .inl ⟨wi.2 (by omega), k Dl H2 (k1.trans k2) (f1.back k2 f2) ⟨accV, hDl, ra⟩ (back_new nw.1 nr)⟩
variable {elt tg iter : Expr} {ifs : List Expr} {scope : Scope} {own : List (Str × Nat)} {pos : Pos} {fl : FL} {gg : GF} {t : FB} {e : FE} {vs : List Nat}
/-- [elt for tg in iter if ..] -/
theorem xlc (own : List (Str × Nat)) (hN : X.N.Nodup) (hi : PI X tg iter (iD X.K fl)) (ok : blkC X.N X.env.scope scope own = true)
    (hg : ∀ (s : Shared) (H : Hp) (C : Addr) (cl : List (Str × Addr)) (fp : List Addr), PG (X.blk s H scope (compEnvC scope cl C X.env) fp) tg (gD X.K gg (own.map (·.2)))) (ht : ∀ (s : Shared) (H : Hp) (C : Addr) (cl : List (Str × Addr)) (fp : List Addr), PTs (X.blk s H scope (compEnvC scope cl C X.env) fp) ifs (tT X.K t))
    (he : ∀ (s : Shared) (H : Hp) (C : Addr) (cl : List (Str × Addr)) (fp : List Addr), PE (X.blk s H scope (compEnvC scope cl C X.env) fp) elt (tD X.K e)) (hc : X.calm = true := by rfl) (hs : ∀ x, foldedSetIterable iter X.env x = pure x := by intro _; rfl) :
    PE X (.ListComp elt [⟨tg, iter, ifs, 0⟩] scope pos) (tN X.K (nLc (own.map (·.2)) fl gg t e)) :=
  (pe_lc hc hN hi (blkOk_by ok) hg ht he hs).imp fun σ H Q q => lc_read q
/-- name = [..] on one line: the reading of the store -/
theorem xsetLc (i : Nat) {y : Str} {py spos : Pos} (own : List (Str × Nat)) (hN : X.N.Nodup) (hi : PI X tg iter (iD X.K fl)) (ok : blkC X.N X.env.scope scope own = true)
    (hg : ∀ (s : Shared) (H : Hp) (C : Addr) (cl : List (Str × Addr)) (fp : List Addr), PG (X.blk s H scope (compEnvC scope cl C X.env) fp) tg (gD X.K gg (own.map (·.2)))) (ht : ∀ (s : Shared) (H : Hp) (C : Addr) (cl : List (Str × Addr)) (fp : List Addr), PTs (X.blk s H scope (compEnvC scope cl C X.env) fp) ifs (tT X.K t))
    (he : ∀ (s : Shared) (H : Hp) (C : Addr) (cl : List (Str × Addr)) (fp : List Addr), PE (X.blk s H scope (compEnvC scope cl C X.env) fp) elt (tD X.K e))
    (hsw : swapsWith (.ListComp elt [⟨tg, iter, ifs, 0⟩] scope pos) (some (.Name y py)) spos.line X.env = pure true) (hy : X.N[i]? = some y := by rfl) (hyl : X.env.scope.names.lookup y = some .local := by rfl) (hc : X.calm = true := by rfl) (hs : ∀ x, foldedSetIterable iter X.env x = pure x := by intro _; rfl) :
    PS X (.Assign [.Name y py] (.ListComp elt [⟨tg, iter, ifs, 0⟩] scope pos) spos) (tAsg (tN X.K (nLc (own.map (·.2)) fl gg t e)) (gName i)) :=
  (ps_setLc hc hN hy hyl hsw hi (blkOk_by ok) hg ht he hs).imp fun E σ H q => lc_read q
/-- [elt for tg in iter if .. for tg1 in iter1 if ..] -/
theorem xlc2 {tg1 iter1 : Expr} {ifs1 : List Expr} {vs1 : List Nat} {fl1 : FL} {gg1 : GF} {t1 : FB} (own : List (Str × Nat)) (hN : X.N.Nodup) (hi : PI X tg iter (iD X.K fl)) (ok : blkC X.N X.env.scope scope own = true) (hv : ∀ i ∈ vs1, i ∈ own.map (·.2))
    (hg : ∀ (s : Shared) (H : Hp) (C : Addr) (cl : List (Str × Addr)) (fp : List Addr), PG (X.blk s H scope (compEnvC scope cl C X.env) fp) tg (gD X.K gg (own.map (·.2)))) (ht : ∀ (s : Shared) (H : Hp) (C : Addr) (cl : List (Str × Addr)) (fp : List Addr), PTs (X.blk s H scope (compEnvC scope cl C X.env) fp) ifs (tT X.K t))
    (hi1 : ∀ (s : Shared) (H : Hp) (C : Addr) (cl : List (Str × Addr)) (fp : List Addr), PI (X.blk s H scope (compEnvC scope cl C X.env) fp) tg1 iter1 (iD X.K fl1))
    (hg1 : ∀ (s : Shared) (H : Hp) (C : Addr) (cl : List (Str × Addr)) (fp : List Addr), PG (X.blk s H scope (compEnvC scope cl C X.env) fp) tg1 (gD X.K gg1 vs1)) (ht1 : ∀ (s : Shared) (H : Hp) (C : Addr) (cl : List (Str × Addr)) (fp : List Addr), PTs (X.blk s H scope (compEnvC scope cl C X.env) fp) ifs1 (tT X.K t1))
    (he : ∀ (s : Shared) (H : Hp) (C : Addr) (cl : List (Str × Addr)) (fp : List Addr), PE (X.blk s H scope (compEnvC scope cl C X.env) fp) elt (tD X.K e)) (hc : X.calm = true := by rfl) (hs : ∀ x, foldedSetIterable iter X.env x = pure x := by intro _; rfl) (hs1 : ∀ env x, foldedSetIterable iter1 env x = pure x := by intro _ _; rfl) :
    PE X (.ListComp elt [⟨tg, iter, ifs, 0⟩, ⟨tg1, iter1, ifs1, 0⟩] scope pos) (tN X.K (nLc2 (own.map (·.2)) vs1 fl gg t fl1 gg1 t1 e)) :=
  (pe_lc2 hc hN hi (blkOk_by ok) hv hg ht hi1 hg1 ht1 he hs hs1).imp fun σ H Q q => lc2_read hv q
theorem xsetLc2 (i : Nat) {y : Str} {py spos : Pos} {tg1 iter1 : Expr} {ifs1 : List Expr} {vs1 : List Nat} {fl1 : FL} {gg1 : GF} {t1 : FB} (own : List (Str × Nat)) (hN : X.N.Nodup) (hi : PI X tg iter (iD X.K fl)) (ok : blkC X.N X.env.scope scope own = true) (hv : ∀ i ∈ vs1, i ∈ own.map (·.2))
    (hg : ∀ (s : Shared) (H : Hp) (C : Addr) (cl : List (Str × Addr)) (fp : List Addr), PG (X.blk s H scope (compEnvC scope cl C X.env) fp) tg (gD X.K gg (own.map (·.2)))) (ht : ∀ (s : Shared) (H : Hp) (C : Addr) (cl : List (Str × Addr)) (fp : List Addr), PTs (X.blk s H scope (compEnvC scope cl C X.env) fp) ifs (tT X.K t))
    (hi1 : ∀ (s : Shared) (H : Hp) (C : Addr) (cl : List (Str × Addr)) (fp : List Addr), PI (X.blk s H scope (compEnvC scope cl C X.env) fp) tg1 iter1 (iD X.K fl1))
    (hg1 : ∀ (s : Shared) (H : Hp) (C : Addr) (cl : List (Str × Addr)) (fp : List Addr), PG (X.blk s H scope (compEnvC scope cl C X.env) fp) tg1 (gD X.K gg1 vs1)) (ht1 : ∀ (s : Shared) (H : Hp) (C : Addr) (cl : List (Str × Addr)) (fp : List Addr), PTs (X.blk s H scope (compEnvC scope cl C X.env) fp) ifs1 (tT X.K t1))
    (he : ∀ (s : Shared) (H : Hp) (C : Addr) (cl : List (Str × Addr)) (fp : List Addr), PE (X.blk s H scope (compEnvC scope cl C X.env) fp) elt (tD X.K e))
    (hsw : swapsWith (.ListComp elt [⟨tg, iter, ifs, 0⟩, ⟨tg1, iter1, ifs1, 0⟩] scope pos) (some (.Name y py)) spos.line X.env = pure true) (hy : X.N[i]? = some y := by rfl) (hyl : X.env.scope.names.lookup y = some .local := by rfl) (hc : X.calm = true := by rfl) (hs : ∀ x, foldedSetIterable iter X.env x = pure x := by intro _; rfl) (hs1 : ∀ env x, foldedSetIterable iter1 env x = pure x := by intro _ _; rfl) :
    PS X (.Assign [.Name y py] (.ListComp elt [⟨tg, iter, ifs, 0⟩, ⟨tg1, iter1, ifs1, 0⟩] scope pos) spos) (tAsg (tN X.K (nLc2 (own.map (·.2)) vs1 fl gg t fl1 gg1 t1 e)) (gName i)) :=
  (ps_setLc2 hc hN hy hyl hsw hi (blkOk_by ok) hv hg ht hi1 hg1 ht1 he hs hs1).imp fun E σ H q => lc2_read hv q
theorem _root_.L2.Inv.slen {pins : List (Addr × Obj)} {σ : St} {H : Hp} {s : Shared} (I : Inv X pins σ H s) : σ.length = X.N.length := I.len
/-! ### what is walked -/
theorem _root_.L2.PI.imp {tg iter : Expr} {wi wi' : TI} (h : PI X tg iter wi) (w : ∀ σ H R, wi' σ H R → wi σ H R) : PI X tg iter wi' := ⟨fun pins s σ H R I q => h.run pins s σ H R I (w σ H R q)⟩
theorem PI.orR {tg iter : Expr} {w1 w2 : TI} (h1 : PI X tg iter w1) (h2 : PI X tg iter w2) : PI X tg iter (fun σ H R => w1 σ H R ∨ w2 σ H R) := ⟨fun pins s σ H R I q => q.elim (h1.run pins s σ H R I) (h2.run pins s σ H R I)⟩
/-- the items of a list, a tuple, the signs of a text -/
def itemsOf : D → Option (List D)
  | .list ds => some ds
  | .tuple ds => some ds
  | .str x => some (x.cps.toList.map fun c => .str ⟨#[c]⟩)
  | _ => none
def lSeq (f : FE) : FL := fun ss => (f ss).bind fun d s1 => .of (itemsOf d) s1
theorem walk_l {K : Fg} {a : Addr} {xs : List V} {ds : List D} {H : Hp} (h : LstF K H a xs) (r : RepAll K H xs ds) : Walk K (Itl K a) ds H := fun i H' k => by
  have h' := (h.kp k).sq
  have r' := r.kp k
  refine ⟨fun d e => ?_, fun hl => ⟨xs, h', by rw [r'.len]; exact hl⟩⟩
  obtain ⟨v, e1, rv⟩ := r'.get e
  exact ⟨⟨xs, v, h', e1⟩, fun x H2 hy => by
    obtain ⟨rfl, hx⟩ := hy
    have := hx xs h'
    rw [e1] at this
    cases this
    exact ⟨Same.refl _, rv⟩⟩
theorem walk_t {K : Fg} {a : Addr} {xs : List V} {ds : List D} {H : Hp} (h : SqT K H a xs) (r : RepAll K H xs ds) : Walk K (Itt K a) ds H := fun i H' k => by
  have h' := sqT_kp k h
  have r' := r.kp k
  refine ⟨fun d e => ?_, fun hl => ⟨xs, h', by rw [r'.len]; exact hl⟩⟩
  obtain ⟨v, e1, rv⟩ := r'.get e
  exact ⟨⟨xs, v, h', e1⟩, fun x H2 hy => by
    obtain ⟨rfl, hx⟩ := hy
    have := hx xs h'
    rw [e1] at this
    cases this
    exact ⟨Same.refl _, rv⟩⟩
theorem walk_s {K : Fg} {x : Str} {H : Hp} : Walk K (Its x) (x.cps.toList.map fun c => PyData.str ⟨#[c]⟩) H := fun i H' k => by
  refine ⟨fun d e => ?_, fun hl => ?_⟩
  · rw [List.getElem?_map] at e
    obtain ⟨c, e1, rfl⟩ := Option.map_eq_some_iff.mp e
    have e2 : x.cps[i]? = some c := by rw [← Array.getElem?_toList]; exact e1
    refine ⟨(Array.getElem?_eq_some_iff.mp e2).1, fun v H2 hy => ?_⟩
    obtain ⟨rfl, c', hc, rfl⟩ := hy
    rw [e2] at hc
    cases hc
    exact ⟨Same.refl _, .str _⟩
  · rw [List.length_map, Array.length_toList] at hl
    exact hl
variable {f : FE}
theorem iseq (h : PE X iter (tD X.K f)) : PI X tg iter (iD X.K (lSeq f)) := by
  refine (PI.orR (pi_list h) (PI.orR (pi_tup h) (pi_str h))).imp fun σ H R q => ?_
  obtain ⟨fx, ss, ds, s2, fr, e, k⟩ := q
  obtain ⟨d, s1, e1, e⟩ := bind_ok e
  obtain ⟨eg, rfl⟩ := of_ok e
  unfold itemsOf at eg
  split at eg
  · cases eg
    refine .inl ⟨fx, ss, _, _, fr, e1, fun v H1 k1 f1 r1 => ?_⟩
    obtain ⟨a, xs, rfl, h1, r2⟩ := r1.lstv
    exact ⟨a, rfl, ⟨xs, h1.sq⟩, k _ _ k1 f1 (walk_l h1 r2)⟩
  · cases eg
    refine .inr (.inl ⟨fx, ss, _, _, fr, e1, fun v H1 k1 f1 r1 => ?_⟩)
    obtain ⟨a, xs, rfl, h1, r2⟩ := r1.tupv
    exact ⟨a, rfl, ⟨xs, h1⟩, k _ _ k1 f1 (walk_t h1 r2)⟩
  · cases eg
    refine .inr (.inr ⟨fx, ss, _, _, fr, e1, fun v H1 k1 f1 r1 => ?_⟩)
    obtain rfl := r1.strv
    exact ⟨_, rfl, k _ _ k1 f1 walk_s⟩
  · cases eg
/-- range -/
def rangeD (lo : Int) (n : Nat) : List D := (List.range n).map fun (i : Nat) => PyData.int (lo + (i : Int))
theorem walk_r {K : Fg} {lo : Int} {n : Nat} {H : Hp} : Walk K (Itr lo n) (rangeD lo n) H := fun i H' k => by
  unfold rangeD
  refine ⟨fun d e => ?_, fun hl => ?_⟩
  · rw [List.getElem?_map] at e
    obtain ⟨c, e1, rfl⟩ := Option.map_eq_some_iff.mp e
    obtain ⟨h1, h2⟩ := List.getElem?_eq_some_iff.mp e1
    rw [List.length_range] at h1
    rw [List.getElem_range] at h2
    subst h2
    refine ⟨h1, fun v H2 hy => ?_⟩
    obtain ⟨rfl, rfl⟩ := hy
    exact ⟨Same.refl _, .int _⟩
  · rw [List.length_map, List.length_range] at hl
    exact hl
def small (j : Int) : Bool := decide (-(2 ^ 62) ≤ j) && decide (j < 2 ^ 62)
theorem small_of {j : Int} (h : small j = true) : -(2 ^ 62) ≤ j ∧ j < 2 ^ 62 := by
  unfold small at h
  simpa using h
def lRng1 (f : FL) : FL := fun ss => (f ss).bind fun d s1 => match d with
  | [.int j] => if small j = true then .ok (rangeD 0 j.toNat) s1 else .no
  | _ => .no
def lRng2 (f : FL) : FL := fun ss => (f ss).bind fun d s1 => match d with
  | [.int i, .int j] => if small i = true ∧ small j = true then .ok (rangeD i (j - i).toNat) s1 else .no
  | _ => .no
variable {a b : Expr} {p : Pos}
theorem irng1 (hm : X.mg "range" = none) (ha : PA X [a] (tL X.K fl)) (hg : Gl X "range" := by rfl) (hs : starEach [a] X.env = [(false, eval a X.env)] := by rfl) : PI X tg (.Call (.Name "range" p) [a] [] pos) (iD X.K (lRng1 fl)) := by
  refine (pi_range1 hg hm ha hs).imp fun σ H R q => ?_
  obtain ⟨fx, ss, ds, s2, fr, e, k⟩ := q
  obtain ⟨d, s1, e1, e⟩ := bind_ok e
  refine ⟨fx, ss, d, s1, fr, e1, fun vs H1 k1 f1 r1 => ?_⟩
  split at e
  · split at e
    · rename_i j hj
      cases e
      obtain ⟨v, rfl, rv⟩ := r1.one
      obtain rfl := rv.intv
      exact ⟨j, rfl, (small_of hj).1, (small_of hj).2, k _ _ k1 f1 walk_r⟩
    · cases e
  · cases e
theorem irng2 (hm : X.mg "range" = none) (ha : PA X [a, b] (tL X.K fl)) (hg : Gl X "range" := by rfl) (hs : starEach [a, b] X.env = [(false, eval a X.env), (false, eval b X.env)] := by rfl) (hs2 : starEach [b] X.env = [(false, eval b X.env)] := by rfl) : PI X tg (.Call (.Name "range" p) [a, b] [] pos) (iD X.K (lRng2 fl)) := by
  refine (pi_range2 hg hm ha hs hs2).imp fun σ H R q => ?_
  obtain ⟨fx, ss, ds, s2, fr, e, k⟩ := q
  obtain ⟨d, s1, e1, e⟩ := bind_ok e
  refine ⟨fx, ss, d, s1, fr, e1, fun vs H1 k1 f1 r1 => ?_⟩
  split at e
  · split at e
    · rename_i i j hj
      cases e
      obtain ⟨v, w, rfl, rv, rw_⟩ := r1.two
      obtain rfl := rv.intv
      obtain rfl := rw_.intv
      exact ⟨i, j, rfl, ⟨(small_of hj.1).1, (small_of hj.1).2, (small_of hj.2).1, (small_of hj.2).2⟩, k _ _ k1 f1 walk_r⟩
    · cases e
  · cases e
/-- zip of two lists, of two tuples -/
def zipD (xs ys : List D) : List D := List.zipWith (fun x y => .tuple [x, y]) xs ys
def lZip (f : FL) : FL := fun ss => (f ss).bind fun d s1 => match d with
  | [.list xs, .list ys] => .ok (zipD xs ys) s1
  | [.tuple xs, .tuple ys] => .ok (zipD xs ys) s1
  | _ => .no
theorem zipD_get {xs ys : List D} {i : Nat} {d : D} (h : (zipD xs ys)[i]? = some d) : ∃ x y, xs[i]? = some x ∧ ys[i]? = some y ∧ d = .tuple [x, y] := by
  unfold zipD at h
  rw [List.getElem?_zipWith] at h
  split at h
  · rename_i x y a b
    exact ⟨x, y, a, b, (Option.some.inj h).symm⟩
  · cases h
theorem walk_z {K : Fg} {a b : Addr} {xs ys : List V} {ds es : List D} {H : Hp} (h : LstF K H a xs) (g : LstF K H b ys) (r : RepAll K H xs ds) (q : RepAll K H ys es) : Walk K (Itz K a b) (zipD ds es) H := fun i H' k => by
  have h' := (h.kp k).sq
  have g' := (g.kp k).sq
  have r' := r.kp k
  have q' := q.kp k
  refine ⟨fun d e => ?_, fun hl => ⟨xs, ys, h', g', ?_⟩⟩
  · obtain ⟨x, y, e1, e2, rfl⟩ := zipD_get e
    obtain ⟨v, e3, rv⟩ := r'.get e1
    obtain ⟨w, e4, rw_⟩ := q'.get e2
    refine ⟨⟨xs, ys, v, w, h', g', e3, e4⟩, fun z H2 hy => ?_⟩
    obtain ⟨T, v', w', rfl, hT, rfl, z1, z2⟩ := hy
    have e5 := z1 xs h'
    rw [e3] at e5
    cases e5
    have e6 := z2 ys g'
    rw [e4] at e6
    cases e6
    exact ⟨same_new hT, .tup (.of upd_same) ((RepAll.cons rv (.cons rw_ .nil)).kp (.same (same_new hT)))⟩
  · unfold zipD at hl
    rw [List.length_zipWith] at hl
    rw [r'.len, q'.len]
    omega
theorem walk_zt {K : Fg} {a b : Addr} {xs ys : List V} {ds es : List D} {H : Hp} (h : SqT K H a xs) (g : SqT K H b ys) (r : RepAll K H xs ds) (q : RepAll K H ys es) : Walk K (ItzT K a b) (zipD ds es) H := fun i H' k => by
  have h' := sqT_kp k h
  have g' := sqT_kp k g
  have r' := r.kp k
  have q' := q.kp k
  refine ⟨fun d e => ?_, fun hl => ⟨xs, ys, h', g', ?_⟩⟩
  · obtain ⟨x, y, e1, e2, rfl⟩ := zipD_get e
    obtain ⟨v, e3, rv⟩ := r'.get e1
    obtain ⟨w, e4, rw_⟩ := q'.get e2
    refine ⟨⟨xs, ys, v, w, h', g', e3, e4⟩, fun z H2 hy => ?_⟩
    obtain ⟨T, v', w', rfl, hT, rfl, z1, z2⟩ := hy
    have e5 := z1 xs h'
    rw [e3] at e5
    cases e5
    have e6 := z2 ys g'
    rw [e4] at e6
    cases e6
    exact ⟨same_new hT, .tup (.of upd_same) ((RepAll.cons rv (.cons rw_ .nil)).kp (.same (same_new hT)))⟩
  · unfold zipD at hl
    rw [List.length_zipWith] at hl
    rw [r'.len, q'.len]
    omega
variable {elts : List Expr} {kk : Nat} {tpos : Pos}
theorem izip (hm : X.mg "zip" = none) (ha : PA X [a, b] (tL X.K fl)) (hg : Gl X "zip" := by rfl) (hs : starEach [a, b] X.env = (false, eval a X.env) :: starEach [b] X.env := by rfl) (hpl : (backTo pos (starEach [b] X.env)).any (·.1) = false := by rfl) :
    PI X (.Tuple elts kk tpos) (.Call (.Name "zip" p) [a, b] [] pos) (iD X.K (lZip fl)) := by
  refine (pi_zipA hg hm ha hs hpl).imp fun σ H R q => ?_
  obtain ⟨fx, ss, ds, s2, fr, e, k⟩ := q
  obtain ⟨d, s1, e1, e⟩ := bind_ok e
  refine ⟨fx, ss, d, s1, fr, e1, fun vs H1 k1 f1 r1 => ?_⟩
  split at e
  · cases e
    obtain ⟨v, w, rfl, rv, rw_⟩ := r1.two
    obtain ⟨a1, xs, rfl, h1, q1⟩ := rv.lstv
    obtain ⟨a2, ys, rfl, h2, q2⟩ := rw_.lstv
    exact ⟨a1, a2, xs, ys, rfl, .inl ⟨h1.sq, h2.sq, k _ _ k1 f1 (walk_z h1 h2 q1 q2)⟩⟩
  · cases e
    obtain ⟨v, w, rfl, rv, rw_⟩ := r1.two
    obtain ⟨a1, xs, rfl, h1, q1⟩ := rv.tupv
    obtain ⟨a2, ys, rfl, h2, q2⟩ := rw_.tupv
    exact ⟨a1, a2, xs, ys, rfl, .inr ⟨h1, h2, k _ _ k1 f1 (walk_zt h1 h2 q1 q2)⟩⟩
  · cases e
/-- enumerate of a list -/
def enumD (xs : List D) : List D := List.zipWith (fun (i : Nat) x => .tuple [.int (i : Int), x]) (List.range xs.length) xs
def lEnum (f : FL) : FL := fun ss => (f ss).bind fun d s1 => match d with
  | [.list xs] => .ok (enumD xs) s1
  | _ => .no
theorem walk_e {K : Fg} {a : Addr} {xs : List V} {ds : List D} {H : Hp} (h : LstF K H a xs) (r : RepAll K H xs ds) : Walk K (Ite K a) (enumD ds) H := fun i H' k => by
  have h' := (h.kp k).sq
  have r' := r.kp k
  refine ⟨fun d e => ?_, fun hl => ⟨xs, h', ?_⟩⟩
  · unfold enumD at e
    rw [List.getElem?_zipWith] at e
    split at e
    · rename_i j x e1 e2
      cases e
      have hj : j = i := by
        obtain ⟨h1, h2⟩ := List.getElem?_eq_some_iff.mp e1
        rw [List.getElem_range] at h2
        exact h2.symm
      subst hj
      obtain ⟨v, e3, rv⟩ := r'.get e2
      refine ⟨⟨xs, v, h', e3⟩, fun z H2 hy => ?_⟩
      obtain ⟨T, v', rfl, hT, rfl, z1⟩ := hy
      have e5 := z1 xs h'
      rw [e3] at e5
      cases e5
      exact ⟨same_new hT, .tup (.of upd_same) ((RepAll.cons (.int _) (.cons rv .nil)).kp (.same (same_new hT)))⟩
    · cases e
  · unfold enumD at hl
    rw [List.length_zipWith, List.length_range] at hl
    rw [r'.len]
    omega
theorem ienum (hm : X.mg "enumerate" = none) (ha : PA X [a] (tL X.K fl)) (hg : Gl X "enumerate" := by rfl) (hs : starEach [a] X.env = [(false, eval a X.env)] := by rfl) :
    PI X (.Tuple elts kk tpos) (.Call (.Name "enumerate" p) [a] [] pos) (iD X.K (lEnum fl)) := by
  refine (pi_enum hg hm ha hs).imp fun σ H R q => ?_
  obtain ⟨fx, ss, ds, s2, fr, e, k⟩ := q
  obtain ⟨d, s1, e1, e⟩ := bind_ok e
  refine ⟨fx, ss, d, s1, fr, e1, fun vs H1 k1 f1 r1 => ?_⟩
  split at e
  · cases e
    obtain ⟨v, rfl, rv⟩ := r1.one
    obtain ⟨a1, xs, rfl, h1, q1⟩ := rv.lstv
    exact ⟨a1, xs, rfl, h1.sq, k _ _ k1 f1 (walk_e h1 q1)⟩
  · cases e
end
end Dt

/-! Dt8: objects of one's own: read, changed, locked. -/
namespace Dt
open PySem PySem.Spec L2
open PyProof.Rows hiding St
def objAt (ss : SS) (i : Nat) : Option O := (ss[i]?).bind Sl.obj
theorem objAt_some {ss : SS} {i : Nat} {o : O} (h : objAt ss i = some o) : ∃ s, ss[i]? = some s ∧ s.obj = some o := Option.bind_eq_some_iff.mp h
section
variable {X : Cx} {a b : Expr} {es : List Expr} {pos p : Pos} {f g : FE} {fl : FL} {x : Str}
/-- a name that holds data, or an object that is from now on data -/
def eVF (i : Nat) : FE := fun ss => match ss[i]? with
  | some (.imm d) => .ok d ss
  | some (.own o) => .ok o.toD (ss.set i (.imm o.toD))
  | _ => .no
theorem xvf (i : Nat) (hN : X.N[i]? = some x := by rfl) (hv : Vis X.env.scope x := by first | exact Or.inl rfl | exact Or.inr (Or.inl rfl) | exact Or.inr (Or.inr rfl)) (hd : (x == ("__debug__" : Str)) = false := by decide)
    (hcd : (x == ("__classdict__" : Str)) = false := by decide) : PE X (.Name x pos) (tD X.K (eVF i)) := by
  refine ⟨fun pins s σ H Q I q => ?_⟩
  obtain ⟨fx, ss, d, s3, fr, e, k⟩ := q
  unfold eVF at e
  split at e
  · rename_i d' e1
    cases e
    obtain ⟨v, h1, h2⟩ := fr.slot i _ e1
    exact (pe_var hN hv hd hcd).run pins s σ H Q I ⟨v, h1, k v H (Kp.refl H) fr h2⟩
  · rename_i o e1
    cases e
    obtain ⟨q, h1, h2, h3⟩ := fr.slot i _ e1
    refine thn ((pe_var hN hv hd hcd).run pins s σ H (fun v H' => v = .ref q ∧ H' = H) I ⟨_, h1, rfl, rfl⟩) fun u s2 z => ?_
    obtain ⟨v, H', I2, r, rfl, rfl⟩ := z
    obtain ⟨w, hw, lw, mw, rp⟩ := h2.loose
    obtain ⟨od, I3⟩ := I2.lock hw mw
    obtain ⟨f2, k2⟩ := fr.freeze (u := .frz od w) e1 h1 hw lw fun _ => rp od
    exact ⟨.ref q, _, I3, r, k _ _ k2 f2 (rp od)⟩
  · cases e
/-- xs.append(e) -/
def sApp (i : Nat) (f : FE) : FS := fun ss => match objAt ss i with
  | some (.lst _) => match f ss with
    | .ok d s1 => match s1[i]? with
      | some s => match s.obj with
        | some (.lst ds) => if ds.length < sizeLine then .nx (s1.set i (s.put (.lst (ds ++ [d])))) else .no
        | _ => .no
      | none => .no
    | .no => .no
  | _ => .no
theorem sapp (i : Nat) {st : Stmt} (h : PS X st (tDrop (tBM X.K "list" rAppend (tVar i) (tCons (tD X.K f) tNil)))) : PS X st (tS X.K (sApp i f)) := by
  refine h.imp fun E σ H q => ?_
  obtain ⟨fx, ss, fr, k⟩ := tS_iff.mp q
  unfold sApp at k
  split at k
  · rename_i ds0 ho
    obtain ⟨s0, e0, eo⟩ := objAt_some ho
    obtain ⟨q, h1, ⟨xs, h2, _⟩, _⟩ := (fr.slot i s0 e0).obj eo
    refine ⟨_, h1, .inl ⟨rfl, xs, .of h2⟩, ?_⟩
    split at k
    · rename_i d s1 e1
      split at k
      · rename_i s es_
        split at k
        · rename_i ds eo2
          split at k
          · rename_i hl
            refine ⟨fx, ss, d, s1, fr, e1, fun v H1 k1 f1 r1 => ?_⟩
            obtain ⟨q2, z1, ⟨ys, z2, z3⟩, _⟩ := (f1.slot i s es_).obj eo2
            rw [h1] at z1
            cases z1
            obtain ⟨f2, k2⟩ := f1.mut (o' := .lst (ds ++ [d])) (u := .lst (ys ++ [v])) es_ eo2 h1 fun kk => ⟨_, upd_same, (z3.append (.cons r1 .nil)).kp kk⟩
            exact ⟨q, ys, v, rfl, rfl, z2, by rw [z3.len]; exact hl, k _ _ (k1.trans k2) f2⟩
          · exact k.elim
        · exact k.elim
      · exact k.elim
    · exact k.elim
  · exact k.elim

/-- xs[e] = v, a list of one's own -/
def sSetL (i : Nat) (fi fv : FE) : FS := fun ss => match fv ss with
  | .no => .no
  | .ok d s1 => match objAt s1 i with
    | some (.lst _) => match fi s1 with
      | .ok (.int n) s2 => match s2[i]? with
        | some s => match s.obj with
          | some (.lst ds) => match ixN ds.length n with
            | some j => .nx (s2.set i (s.put (.lst (ds.set j d))))
            | none => .no
          | _ => .no
        | none => .no
      | _ => .no
    | _ => .no
theorem ssetL (i : Nat) {st : Stmt} {fi fv : FE} (h : PS X st (tAsg (tD X.K fv) (gSub (tVar i) (tD X.K fi) rSetL))) : PS X st (tS X.K (sSetL i fi fv)) := by
  refine h.imp fun E σ H q => ?_
  obtain ⟨fx, ss, fr, k⟩ := tS_iff.mp q
  unfold sSetL at k
  split at k
  · exact k.elim
  rename_i d s1 e1
  split at k
  rotate_left
  · exact k.elim
  rename_i ds0 ho
  split at k
  rotate_left
  · exact k.elim
  rename_i n s2 e2
  split at k
  rotate_left
  · exact k.elim
  rename_i s es_
  split at k
  rotate_left
  · exact k.elim
  rename_i ds eo2
  split at k
  rotate_left
  · exact k.elim
  rename_i j hj
  refine ⟨fx, ss, d, s1, fr, e1, fun v H1 k1 f1 r1 => ?_⟩
  obtain ⟨s0, e0, eo⟩ := objAt_some ho
  obtain ⟨q, h1, _, _⟩ := (f1.slot i s0 e0).obj eo
  refine ⟨_, h1, fx, s1, _, s2, f1, e2, fun w H2 k2 f2 r2 => ?_⟩
  obtain rfl := r2.intv
  obtain ⟨q2, z1, ⟨ys, z2, z3⟩, _⟩ := (f2.slot i s es_).obj eo2
  rw [h1] at z1
  cases z1
  obtain ⟨f3, k3⟩ := f2.mut (o' := .lst (ds.set j d)) (u := .lst (ys.set j v)) es_ eo2 h1 fun kk => ⟨_, upd_same, ((z3.set (r1.kp k2) j)).kp kk⟩
  exact ⟨q, ys, n, j, rfl, rfl, z2, by rw [z3.len]; exact hj, k _ _ ((k1.trans k2).trans k3) f3⟩
/-- xs[e], a list of one's own -/
def eOix (i : Nat) (f : FE) : FE := fun ss => match objAt ss i with
  | some _ => (f ss).bind fun d s1 => match objAt s1 i, d with
    | some (.lst ds), .int n => .of (atI ds n) s1
    | _, _ => .no
  | none => .no
theorem xoix (i : Nat) (h : PE X a (tOp (rIxL X.K) (tVar i) (tD X.K f))) : PE X a (tD X.K (eOix i f)) := by
  refine h.imp fun σ H Q q => ?_
  obtain ⟨fx, ss, d, s3, fr, e, k⟩ := q
  unfold eOix at e
  split at e
  rotate_left
  · cases e
  rename_i o ho
  obtain ⟨s0, e0, eo⟩ := objAt_some ho
  obtain ⟨q, h1, _, _⟩ := (fr.slot i s0 e0).obj eo
  obtain ⟨y, s1, e1, e⟩ := bind_ok e
  refine ⟨_, h1, fx, ss, y, s1, fr, e1, fun w H1 k1 f1 r1 => ?_⟩
  split at e
  · rename_i ds n ho1
    obtain ⟨eg, rfl⟩ := of_ok e
    obtain ⟨s', a1, a2⟩ := objAt_some ho1
    obtain ⟨q2, z1, ⟨ys, z2, z3⟩, _⟩ := (f1.slot i s' a1).obj a2
    rw [h1] at z1
    cases z1
    obtain rfl := r1.intv
    obtain ⟨v, b1, b2⟩ := z3.atI eg
    exact ⟨q, ys, n, v, rfl, rfl, .of z2, b1, k _ _ k1 f1 b2⟩
  · cases e
/-! ### looked at, and left -/
theorem ep_back {pins : List (Addr × Obj)} {σ : St} {H : Hp} {s : Shared} {q : Addr} {o : O} (I : Inv X pins σ H s) (ow : OwnAt X.K H q o) :
    ∃ H1, Inv X pins σ H1 s ∧ Kp H H1 ∧ Rep X.K H1 (.ref q) o.toD ∧ ∀ {Q : VK} {u : Value} {s' : Shared} {b : Bool}, EP X pins σ (fun v H' => v = .bl b ∧ Same H1 H') u s' → (∀ H', Same H H' → Q (.bl b) H') → EP X pins σ Q u s' := by
  obtain ⟨w, hw, lw, mw, rp⟩ := ow.loose
  obtain ⟨od, I1⟩ := I.lock hw mw
  refine ⟨_, I1, Kp.upd hw lw, rp od, fun {Q u s' b} h k => ?_⟩
  obtain ⟨v, H', I2, r, rfl, sm⟩ := h
  have hq : H' q = some (.frz od w) := sm _ _ upd_same
  refine ⟨.bl b, _, I2.unlock hq (I.nofrz hw mw), r, k _ fun a o e => ?_⟩
  by_cases ha : a = q
  · subst ha
    rw [hw] at e
    cases e
    exact upd_same
  · rw [upd_ne ha]
    exact sm a o (by rw [upd_ne ha]; exact e)
def rPkL (K : Fg) (g : D → D → Option D) : R2 := fun x y H Q => ∃ p o e b, x = .ref p ∧ OwnAt K H p o ∧ Rep K H y e ∧ g o.toD e = some (.bool b) ∧ ∀ H', Same H H' → Q (.bl b) H'
def rPkR (K : Fg) (g : D → D → Option D) : R2 := fun x y H Q => ∃ p o d b, y = .ref p ∧ OwnAt K H p o ∧ Rep K H x d ∧ g d o.toD = some (.bool b) ∧ ∀ H', Same H H' → Q (.bl b) H'
theorem opPkL {fo : Value → Value → Sem Value} {g : D → D → Option D} (h : OpR X fo (rD X.K g)) : OpR X fo (rPkL X.K g) := by
  intro pins s σ H x y v u Q I rx ry ⟨p, o, e, b, hx, ow, he, hg, k⟩
  subst hx
  obtain ⟨H1, I1, k1, rp, back⟩ := ep_back I ow
  exact thn (h pins s σ H1 _ _ v u (fun v H' => v = .bl b ∧ Same H1 H') I1 rx ry ⟨_, e, _, rp, he.kp k1, hg, fun v H' sm rv => ⟨rv.bool, sm⟩⟩) fun _ _ q => back q k
theorem opPkR {fo : Value → Value → Sem Value} {g : D → D → Option D} (h : OpR X fo (rD X.K g)) : OpR X fo (rPkR X.K g) := by
  intro pins s σ H x y v u Q I rx ry ⟨p, o, d, b, hx, ow, he, hg, k⟩
  subst hx
  obtain ⟨H1, I1, k1, rp, back⟩ := ep_back I ow
  exact thn (h pins s σ H1 _ _ v u (fun v H' => v = .bl b ∧ Same H1 H') I1 rx ry ⟨d, _, _, he.kp k1, rp, hg, fun v H' sm rv => ⟨rv.bool, sm⟩⟩) fun _ _ q => back q k
def ePkL (g : D → D → Option D) (i : Nat) (f : FE) : FE := fun ss => match objAt ss i with
  | some _ => (f ss).bind fun y s1 => match objAt s1 i with
    | some o => match g o.toD y with
      | some (.bool b) => .ok (.bool b) s1
      | _ => .no
    | none => .no
  | none => .no
def ePkR (g : D → D → Option D) (i : Nat) (f : FE) : FE := fun ss => (f ss).bind fun y s1 => match objAt s1 i with
    | some o => match g y o.toD with
      | some (.bool b) => .ok (.bool b) s1
      | _ => .no
    | none => .no
theorem pkl_read {i : Nat} {g : D → D → Option D} {σ : St} {H : Hp} {Q : VK} (q : tD X.K (ePkL g i f) σ H Q) : tOp (rPkL X.K g) (tVar i) (tD X.K f) σ H Q := by
  obtain ⟨fx, ss, d, s3, fr, e, k⟩ := q
  unfold ePkL at e
  split at e
  rotate_left
  · cases e
  rename_i o0 ho0
  obtain ⟨s0, e0, eo⟩ := objAt_some ho0
  obtain ⟨q, h1, _, _⟩ := (fr.slot i s0 e0).obj eo
  obtain ⟨y, s1, e1, e⟩ := bind_ok e
  refine ⟨_, h1, fx, ss, y, s1, fr, e1, fun w H1 k1 f1 r1 => ?_⟩
  split at e
  rotate_left
  · cases e
  rename_i o1 ho1
  split at e
  rotate_left
  · cases e
  rename_i bb hbb
  cases e
  obtain ⟨s', a1, a2⟩ := objAt_some ho1
  obtain ⟨q2, z1, ow, _⟩ := (f1.slot i s' a1).obj a2
  rw [h1] at z1
  cases z1
  exact ⟨q, o1, y, bb, rfl, ow, r1, hbb, fun H' sm => k _ _ (k1.trans (.same sm)) (f1.same sm) (.bl _)⟩
theorem pkr_read {i : Nat} {g : D → D → Option D} {σ : St} {H : Hp} {Q : VK} (q : tD X.K (ePkR g i f) σ H Q) : tOp (rPkR X.K g) (tD X.K f) (tVar i) σ H Q := by
  obtain ⟨fx, ss, d, s3, fr, e, k⟩ := q
  obtain ⟨y, s1, e1, e⟩ := bind_ok e
  refine ⟨fx, ss, y, s1, fr, e1, fun w H1 k1 f1 r1 => ?_⟩
  split at e
  rotate_left
  · cases e
  rename_i o1 ho1
  split at e
  rotate_left
  · cases e
  rename_i bb hbb
  cases e
  obtain ⟨s', a1, a2⟩ := objAt_some ho1
  obtain ⟨q2, z1, ow, _⟩ := (f1.slot i s' a1).obj a2
  exact ⟨_, z1, q2, o1, y, bb, rfl, ow, r1, hbb, fun H' sm => k _ _ (k1.trans (.same sm)) (f1.same sm) (.bl _)⟩
theorem xpkl (i : Nat) {op : CmpOp} {g : D → D → Option D} (ho : OpR X (compareOp op) (rD X.K g)) (ha : PE X a (tVar i)) (hb : PE X b (tD X.K f)) (hm : behindInMarks op b = false := by first | exact nomark _ | rfl) : PE X (.Compare a [op] [b] pos) (tD X.K (ePkL g i f)) :=
  (pe_cmpR (opPkL ho) ha hb hm).imp fun _ _ _ q => pkl_read q
theorem xpkr (i : Nat) {op : CmpOp} {g : D → D → Option D} (ho : OpR X (compareOp op) (rD X.K g)) (ha : PE X a (tD X.K f)) (hb : PE X b (tVar i)) (hm : behindInMarks op b = false := by first | exact nomark _ | rfl) : PE X (.Compare a [op] [b] pos) (tD X.K (ePkR g i f)) :=
  (pe_cmpR (opPkR ho) ha hb hm).imp fun _ _ _ q => pkr_read q
theorem tpkl (i : Nat) {op : CmpOp} {g : D → D → Option D} (ho : OpR X (compareOp op) (rD X.K g)) (ha : PE X a (tVar i)) (hb : PE X b (tD X.K f)) (hm : behindInMarks op b = false := by first | exact nomark _ | rfl) : PT X (.Compare a [op] [b] pos) (tT X.K (bOf (ePkL g i f))) :=
  tread (pt_cmpR (opPkL ho) ha hb hm) fun _ _ _ q => pkl_read q
theorem tpkr (i : Nat) {op : CmpOp} {g : D → D → Option D} (ho : OpR X (compareOp op) (rD X.K g)) (ha : PE X a (tD X.K f)) (hb : PE X b (tVar i)) (hm : behindInMarks op b = false := by first | exact nomark _ | rfl) : PT X (.Compare a [op] [b] pos) (tT X.K (bOf (ePkR g i f))) :=
  tread (pt_cmpR (opPkR ho) ha hb hm) fun _ _ _ q => pkr_read q
/-- len of a list of one's own -/
def eOlen (i : Nat) : FE := fun ss => match objAt ss i with
  | some (.lst ds) => .ok (.int ds.length) ss
  | _ => .no
theorem xolen (i : Nat) (h : PE X a (tCB (fun xs H Q => ∃ p ys, xs = [.ref p] ∧ (SqL X.K H p ys ∨ SqT X.K H p ys) ∧ Q (.int ys.length) H) (tCons (tVar i) tNil))) : PE X a (tD X.K (eOlen i)) := by
  refine h.imp fun σ H Q q => ?_
  obtain ⟨fx, ss, d, s3, fr, e, k⟩ := q
  unfold eOlen at e
  split at e
  · rename_i ds ho
    cases e
    obtain ⟨s', a1, a2⟩ := objAt_some ho
    obtain ⟨q2, z1, ⟨ys, z2, z3⟩, _⟩ := (fr.slot i s' a1).obj a2
    exact ⟨_, z1, q2, ys, rfl, .inl (.of z2), k _ _ (Kp.refl H) fr (by rw [z3.len]; exact .int _)⟩
  · cases e
/-! ### more stores -/
variable {ws : List Nat}
/-- [a, b] or (a, b) = a list -/
def gLst (n : Nat) (g : List D → SS → Option SS) : GF := fun d ss => match d with
  | .list ds => if ds.length = n then g ds ss else none
  | _ => none
theorem sasgL {st : Stmt} {n : Nat} {g : List D → SS → Option SS} (h : PS X st (tAsg (tD X.K f) (L2.gLst X.K n (gsD X.K g ws)))) : PS X st (tS X.K (sAsg f (gLst n g))) := by
  refine h.imp fun E σ H q => ?_
  obtain ⟨fx, ss, fr, k⟩ := tS_iff.mp q
  unfold sAsg at k
  cases e : f ss with
  | no => rw [e] at k; exact k.elim
  | ok d s1 =>
    rw [e] at k
    simp only at k
    cases e2 : gLst n g d s1 with
    | none => rw [e2] at k; exact k.elim
    | some s2 =>
      rw [e2] at k
      unfold gLst at e2
      split at e2
      · split at e2
        · rename_i ds hl
          refine ⟨fx, ss, _, s1, fr, e, fun v H1 k1 f1 r1 => ?_⟩
          obtain ⟨a, xs, rfl, h1, r2⟩ := r1.lstv
          exact ⟨a, xs, rfl, h1.sq, r2.len.trans hl, fx, s1, ds, s2, f1, r2, e2, fun σ2 H2 _ k2 f2 => k σ2 H2 (k1.trans k2) f2⟩
        · cases e2
      · cases e2
/-- a, b = e1, e2: plain names -/
def sPar (is : List Nat) (f : FL) : FS := fun ss => match f ss with
  | .ok ds s1 => if ds.length = is.length ∧ is.all (fun i => decide (i < s1.length)) = true then .nx ((is.zip ds).foldl (fun t p => t.set p.1 (.imm p.2)) s1) else .no
  | .no => .no
theorem spar {i j : Nat} {st : Stmt} (h : PS X st (tPar i j (tL X.K fl))) : PS X st (tS X.K (sPar [i, j] fl)) := by
  refine h.imp fun E σ H q => ?_
  obtain ⟨fx, ss, fr, k⟩ := tS_iff.mp q
  unfold sPar at k
  cases e : fl ss with
  | no => rw [e] at k; exact k.elim
  | ok ds s1 =>
    rw [e] at k
    simp only at k
    split at k
    · rename_i hc
      refine ⟨fx, ss, ds, s1, fr, e, fun vs H1 k1 f1 r1 => ?_⟩
      match ds, hc.1, r1, k with
      | [d1, d2], _, .cons h1 (.cons h2 .nil), k =>
        have hi := hc.2
        simp only [List.all_cons, List.all_nil, Bool.and_true, Bool.and_eq_true, decide_eq_true_eq] at hi
        exact ⟨_, _, rfl, k _ _ k1 ((f1.imm hi.1 h1).imm (by rw [List.length_set]; exact hi.2) h2)⟩
    · exact k.elim
theorem spar3 {i j l : Nat} {st : Stmt} (h : PS X st (tPar3 i j l (tL X.K fl))) : PS X st (tS X.K (sPar [i, j, l] fl)) := by
  refine h.imp fun E σ H q => ?_
  obtain ⟨fx, ss, fr, k⟩ := tS_iff.mp q
  unfold sPar at k
  cases e : fl ss with
  | no => rw [e] at k; exact k.elim
  | ok ds s1 =>
    rw [e] at k
    simp only at k
    split at k
    · rename_i hc
      refine ⟨fx, ss, ds, s1, fr, e, fun vs H1 k1 f1 r1 => ?_⟩
      match ds, hc.1, r1, k with
      | [d1, d2, d3], _, .cons h1 (.cons h2 (.cons h3 .nil)), k =>
        have hi := hc.2
        simp only [List.all_cons, List.all_nil, Bool.and_true, Bool.and_eq_true, decide_eq_true_eq] at hi
        exact ⟨_, _, _, rfl, k _ _ k1 (((f1.imm hi.1 h1).imm (by rw [List.length_set]; exact hi.2.1) h2).imm (by rw [List.length_set, List.length_set]; exact hi.2.2) h3)⟩
    · exact k.elim
end
end Dt

/-! Dt9: defs by their places, texts, slices, the rest. -/
namespace Dt
open PySem PySem.Spec L2
open PyProof.Rows hiding St
/-- the def as it stands behind the top -/
def At (K : Fg) (mg : Str → Option Value) (x : Str) (st : Stmt) (ps : List Str) : Prop := ∃ f fd, Fun K x x st f fd ∧ mg x = some (.ref f) ∧ ∀ us : List Value, us.length = ps.length → bindArgs fd ⟨us, []⟩ = pure (ps.zip us)
/-- the def keeps its promise -/
def Ok (P : Program) (w : World) (K : Fg) (mg : Str → Option Value) (base : Heap) (k : Nat) (x : Str) (ps : List Str) (F : FnS) : Prop := ∃ f fd, FnOk P w K mg base CX0 k f fd ps (spOf K F ps.length) ∧ mg x = some (.ref f) ∧ PySem.W.keepIn K (.ref f) = true ∧ Binds K fd ps []
section
variable {P : Program} {w : World} {K : Fg} {mg : Str → Option Value} {base : Heap} {x : Str} {st : Stmt} {N ps : List Str} {k : Nat} {b : FS} {F : FnS}
theorem mk_ok (a : At K mg x st ps) (S : FnScope N ps (defScope st))
    (hbody : ∀ (f : Addr) (cdv : Value) (A : Around) (outer : List Env) (s : Shared) (H : Hp) (E : XK), Room k (A.deeper (envOfC x (defScope st) s.heap.objs.size f cdv)) →
      PSs (cxOf CX0 P w K mg base N x (defScope st) f cdv A outer s H E).nox (defBody st) (tS K b)) : Ok P w K mg base (k + 1) x ps (callF N.length b) := by
  obtain ⟨f, fd, F, m, bi⟩ := a
  exact ⟨f, fd, fn_ok F S (hbody f), m, F.kp, .all bi⟩
theorem ok_none (a : At K mg x st ps) : Ok P w K mg base k x ps (fun _ => none) := by
  obtain ⟨f, fd, F, m, bi⟩ := a
  refine ⟨f, fd, ⟨fun vs H Q E h => h.1, fun A outer s H args us vs Q E _ _ _ _ h => ?_⟩, m, F.kp, .all bi⟩
  obtain ⟨_, _, _, _, _, h, _⟩ := h
  cases h
theorem Ok.mono {j : Nat} (h : Ok P w K mg base j x ps F) (l : j ≤ k) : Ok P w K mg base k x ps F := by
  obtain ⟨f, fd, G, r⟩ := h
  exact ⟨f, fd, G.mono l, r⟩
end
section
variable {X : Cx} {a b : Expr} {es : List Expr} {pos p : Pos} {f g : FE} {fl : FL} {x : Str} {k : Nat} {ps : List Str} {F : FnS} {fa : SS → Res (List Ar)} {e : Expr}
theorem xc (G : Ok X.prog X.w X.K X.mg X.base k x ps F) (hr : Room k X.A) (ha : PA X (e :: es) (tA X.K fa)) (hal : LenA fa (e :: es).length) (hl : (e :: es).length = ps.length := by rfl) (hg : Gl X x := by rfl)
    (hdb : (x == ("__debug__" : Str)) = false := by decide) (he : starEach (e :: es) X.env = (false, eval e X.env) :: starEach es X.env := by rfl) (hpl : (backTo pos (starEach es X.env)).any (·.1) = false := by rfl) : PE X (.Call (.Name x p) (e :: es) [] pos) (tD X.K (eCall F fa)) := by
  obtain ⟨f, fd, G, m, kp, bi⟩ := G
  exact xcall G hr m kp bi ha hl hal hg hdb he hpl
theorem xcn (G : Ok X.prog X.w X.K X.mg X.base k x ps F) (hr : Room k X.A) (ha : PA X (e :: es) (tA X.K fa)) (hal : LenA fa (e :: es).length) (hl : (e :: es).length = ps.length := by rfl) (hg : Gl X x := by rfl)
    (hdb : (x == ("__debug__" : Str)) = false := by decide) (he : starEach (e :: es) X.env = (false, eval e X.env) :: starEach es X.env := by rfl) (hpl : (backTo pos (starEach es X.env)).any (·.1) = false := by rfl) : PE X (.Call (.Name x p) (e :: es) [] pos) (tN X.K (nCall F fa)) := by
  obtain ⟨f, fd, G, m, kp, bi⟩ := G
  exact xcallN G hr m kp bi ha hl hal hg hdb he hpl
/-- -n -/
def dNeg : D → Option D
  | .int i => some (.int (-i))
  | _ => none
theorem unNeg : UnR X (unaryOp .USub) (uD X.K dNeg) := by
  intro pins s σ H x v Q I rx ⟨d, z, hd, hz, k⟩
  unfold dNeg at hz
  split at hz
  · cases hz
    obtain rfl := hd.intv
    exact un_neg pins s σ H _ v Q I rx ⟨_, rfl, k _ _ (Same.refl H) (.int _)⟩
  · cases hz
/-! ### slices -/
/-- a bound of a slice: an int, or none -/
abbrev FO := SS → Res (Option Int)
def oNone : FO := fun ss => .ok none ss
def oSome (f : FE) : FO := fun ss => (f ss).bind fun d s1 => match d with
  | .int i => .ok (some i) s1
  | _ => .no
def tO (K : Fg) (f : FO) : TO := fun σ H Q => ∃ fx ss o ss', FR K fx ss σ H ∧ f ss = .ok o ss' ∧ ∀ H', Kp H H' → FR K fx ss' σ H' → Q o H'
theorem on : PO X none (tO X.K oNone) := by
  refine ⟨fun s σ H pins Q I q => po_none.run s σ H pins Q I ?_⟩
  obtain ⟨fx, ss, o, s1, fr, e, k⟩ := q
  cases e
  exact k _ (Kp.refl _) fr
theorem os (h : PE X a (tD X.K f)) : PO X (some a) (tO X.K (oSome f)) := by
  refine ⟨fun s σ H pins Q I q => (po_some h).run s σ H pins Q I ?_⟩
  obtain ⟨fx, ss, o, s2, fr, e, k⟩ := q
  obtain ⟨d, s1, e1, e⟩ := bind_ok e
  split at e
  · cases e
    exact ⟨fx, ss, _, _, fr, e1, fun v H1 k1 f1 r1 => ⟨_, r1.intv, k H1 k1 f1⟩⟩
  · cases e
def eSl (f : FE) (lo hi : FO) : FE := fun ss => (f ss).bind fun d s1 => (lo s1).bind fun l s2 => (hi s2).bind fun h s3 => .of (dSl d l h) s3
theorem xsl {p2 : Pos} {lo hi : Option Expr} {fo fh : FO} (he : PE X a (tD X.K f)) (hl : PO X lo (tO X.K fo)) (hu : PO X hi (tO X.K fh)) : PE X (.Subscript a (.Slice lo hi none p2) pos) (tD X.K (eSl f fo fh)) := by
  refine (pe_slice slD he hl hu).imp fun σ H Q q => ?_
  obtain ⟨fx, ss, d, s4, fr, e, k⟩ := q
  obtain ⟨x, s1, e1, e⟩ := bind_ok e
  obtain ⟨l, s2, e2, e⟩ := bind_ok e
  obtain ⟨h, s3, e3, e⟩ := bind_ok e
  obtain ⟨eg, rfl⟩ := of_ok e
  exact ⟨fx, ss, x, s1, fr, e1, fun v H1 k1 f1 r1 => ⟨fx, s1, l, s2, f1, e2, fun H2 k2 f2 => ⟨fx, s2, h, _, f2, e3, fun H3 k3 f3 => ⟨x, d, (r1.kp k2).kp k3, eg, fun w H4 sm rw_ => k w H4 (((k1.trans k2).trans k3).trans (.same sm)) (f3.same sm) rw_⟩⟩⟩⟩
/-- isinstance(x, (A, B)) -/
def dIs2 (T U : String) (d : D) : Option D := match dIs T d, dIs U d with
  | some (.bool a), some (.bool b) => some (.bool (a || b))
  | _, _ => none
theorem xis2 {T U x1 x2 : Str} {tT tU : String} {p2 p3 p4 : Pos} {n : Nat} (hT : IsTy tT) (hU : IsTy tU) (ha : PE X a (tD X.K f)) (hm : X.mg "isinstance" = none) (hm1 : X.mg x1 = none) (hm2 : X.mg x2 = none) (hv1 : bootBuiltins x1 = some (.type tT)) (hv2 : bootBuiltins x2 = some (.type tU)) (hg1 : Gl X x1 := by rfl) (hg2 : Gl X x2 := by rfl)
    (hn1 : x1 ≠ "__name__" := by decide) (hn2 : x2 ≠ "__name__" := by decide) (hd1 : (x1 == ("__debug__" : Str)) = false := by decide) (hd2 : (x2 == ("__debug__" : Str)) = false := by decide) (hg : Gl X "isinstance" := by rfl) (hv : bootBuiltins "isinstance" = some (.builtin "isinstance") := by decide +kernel)
    (he : starEach [a, .Tuple [.Name x1 p2, .Name x2 p3] n p4] X.env = (false, eval a X.env) :: starEach [.Tuple [.Name x1 p2, .Name x2 p3] n p4] X.env := by rfl) (hpl : (backTo pos (starEach [.Tuple [.Name x1 p2, .Name x2 p3] n p4] X.env)).any (·.1) = false := by rfl)
    (he2 : starEach [.Tuple [.Name x1 p2, .Name x2 p3] n p4] X.env = (false, eval (.Tuple [.Name x1 p2, .Name x2 p3] n p4) X.env) :: starEach [] X.env := by rfl) (hs1 : starEach [.Name x1 p2, .Name x2 p3] X.env = (false, eval (.Name x1 p2) X.env) :: starEach [.Name x2 p3] X.env := by rfl) (hs2 : starEach [.Name x2 p3] X.env = (false, eval (.Name x2 p3) X.env) :: starEach [] X.env := by rfl) :
    PE X (.Call (.Name "isinstance" p) [a, .Tuple [.Name x1 p2, .Name x2 p3] n p4] [] pos) (tD X.K (eUn (dIs2 tT tU) f)) := by
  refine (pe_callB call_isiT hg hm hv (pa_cons ha (pa_cons (pe_tup (pa_cons (pe_bltn (v := .ty tT) hg1 hm1 hv1 rfl hn1 hd1) (pa_cons (pe_bltn (v := .ty tU) hg2 hm2 hv2 rfl hn2 hd2) pa_nil hs2) hs1)) pa_nil he2) he) (by decide) (by decide) he hpl).imp fun σ H Q q => ?_
  obtain ⟨fx, ss, d, s3, fr, e, k⟩ := q
  obtain ⟨y, s1, e1, e⟩ := bind_ok e
  obtain ⟨eg, rfl⟩ := of_ok e
  refine ⟨fx, ss, y, _, fr, e1, fun v H1 k1 f1 r1 => ⟨by show 2 ≤ sizeLine; decide, fun tp htp => ?_⟩⟩
  unfold dIs2 at eg
  split at eg
  · rename_i ba bb h1 h2
    cases eg
    obtain ⟨_, z1, q1, n1⟩ := kit_is (K := X.K) hT h1
    obtain ⟨_, z2, q2, _⟩ := kit_is (K := X.K) hU h2
    cases z1
    cases z2
    have sm : Same H1 (upd H1 tp (.tup [.ty tT, .ty tU])) := same_new htp
    refine ⟨v, tp, [.ty tT, .ty tU], .type (tyName y), [.type tT, .type tU], ba || bb, rfl, upd_same, .cons (.ty tT) (.cons (.ty tU) .nil), tyx_of (r1.kp (.same sm)) n1, kitAny_cons q1 (fun hb => by rw [hb]; exact kitAny_cons q2 (fun hb2 => by rw [hb2]; exact kitAny_nil) fun hb2 => by rw [hb2]; rfl) (fun hb => by rw [hb]; rfl), k _ _ (k1.trans (.same sm)) (f1.same sm) (.bl _)⟩
  · cases eg
/-- a list of one's own, handed on -/
def nV (i : Nat) : FN := fun ss => match ss[i]? with
  | some (.own o) => .ok o (ss.set i .un)
  | _ => .no
theorem xnv (i : Nat) (h : PE X a (tVar i)) : PE X a (tN X.K (nV i)) := by
  refine h.imp fun σ H Q q => ?_
  obtain ⟨fx, ss, d, s3, fr, e, k⟩ := q
  unfold nV at e
  split at e
  · rename_i o e1
    cases e
    obtain ⟨q, h1, h2, h3⟩ := fr.slot i _ e1
    have lt : i < ss.length := (List.getElem?_eq_some_iff.mp e1).1
    have es : σ.set i (some (.ref q)) = σ := by
      apply List.ext_getElem?
      intro j
      by_cases hj : j = i
      · subst hj
        rw [List.getElem?_set_self (fr.lt lt), h1]
      · rw [List.getElem?_set_ne (Ne.symm hj)]
    have f1 := fr.un (i := i) (x := some (.ref q))
    rw [es] at f1
    refine ⟨_, h1, k q H (Kp.refl H) f1 h2 ⟨h3, fun j sj oj ej eoj hj => ?_⟩⟩
    rcases get_set_eq ej with ⟨rfl, rfl⟩ | ⟨ne, ej⟩
    · cases eoj
    · exact ne (fr.dis j i q sj _ oj _ ej e1 eoj rfl hj h1)
  · cases e
end
end Dt

/-! Dt10: built-in calls that make lists; texts. -/
namespace Dt
open PySem PySem.Spec L2
open PyProof.Rows hiding St
abbrev fuelW : Nat := 100000
theorem bt_len : bootBuiltins "len" = some (.builtin "len") := by decide +kernel
theorem bt_all : bootBuiltins "all" = some (.builtin "all") := by decide +kernel
theorem bt_any : bootBuiltins "any" = some (.builtin "any") := by decide +kernel
theorem bt_sum : bootBuiltins "sum" = some (.builtin "sum") := by decide +kernel
theorem bt_max : bootBuiltins "max" = some (.builtin "max") := by decide +kernel
theorem bt_min : bootBuiltins "min" = some (.builtin "min") := by decide +kernel
theorem bt_ord : bootBuiltins "ord" = some (.builtin "ord") := by decide +kernel
theorem bt_sorted : bootBuiltins "sorted" = some (.builtin "sorted") := by decide +kernel
theorem bt_int : bootBuiltins "int" = some (.type "int") := by decide +kernel
theorem bt_bool : bootBuiltins "bool" = some (.type "bool") := by decide +kernel
theorem bt_str : bootBuiltins "str" = some (.type "str") := by decide +kernel
theorem bt_list : bootBuiltins "list" = some (.type "list") := by decide +kernel
theorem bt_tuple : bootBuiltins "tuple" = some (.type "tuple") := by decide +kernel
theorem bt_dict : bootBuiltins "dict" = some (.type "dict") := by decide +kernel
theorem bt_set : bootBuiltins "set" = some (.type "set") := by decide +kernel
def nCB (g : List D → Option O) (a : FL) : FN := fun ss => (a ss).bind fun x s1 => .of (g x) s1
section
variable {X : Cx} {a b : Expr} {es : List Expr} {pos p : Pos} {f fa fb : FE} {fl : FL} {x : Str}
theorem cbn_read {g : List D → Option O} {σ : St} {H : Hp} {Q : VK} (q : tN X.K (nCB g fl) σ H Q) : tCB (cDN X.K g) (tL X.K fl) σ H Q := by
  obtain ⟨fx, ss, d, s3, fr, e, k⟩ := q
  obtain ⟨x, s1, e1, e⟩ := bind_ok e
  obtain ⟨eg, rfl⟩ := of_ok e
  exact ⟨fx, ss, x, _, fr, e1, fun v H1 k1 f1 r1 => ⟨x, d, r1, eg, fun p H' hp sm ow => k p H' (k1.trans (.same sm)) (f1.same sm) ow (f1.newAt hp)⟩⟩
theorem xcbN {id : String} {g : List D → Option O} (hc : CallR X (.builtin id) (cDN X.K g)) (hm : X.mg x = none) (hv : bootBuiltins x = some (.builtin id)) (ha : PA X (a :: es) (tL X.K fl)) (hg : Gl X x := by rfl) (hn : x ≠ "__name__" := by decide) (hdb : (x == ("__debug__" : Str)) = false := by decide)
    (he : starEach (a :: es) X.env = (false, eval a X.env) :: starEach es X.env := by rfl) (hpl : (backTo pos (starEach es X.env)).any (·.1) = false := by rfl) : PE X (.Call (.Name x p) (a :: es) [] pos) (tN X.K (nCB g fl)) :=
  (pe_callB hc hg hm hv ha hn hdb he hpl).imp fun σ H Q q => cbn_read q
theorem xctN {id : String} {g : List D → Option O} (hc : CallR X (.type id) (cDN X.K g)) (hm : X.mg x = none) (hv : bootBuiltins x = some (.type id)) (ha : PA X (a :: es) (tL X.K fl)) (hg : Gl X x := by rfl) (hn : x ≠ "__name__" := by decide) (hdb : (x == ("__debug__" : Str)) = false := by decide)
    (he : starEach (a :: es) X.env = (false, eval a X.env) :: starEach es X.env := by rfl) (hpl : (backTo pos (starEach es X.env)).any (·.1) = false := by rfl) : PE X (.Call (.Name x p) (a :: es) [] pos) (tN X.K (nCB g fl)) :=
  (pe_callTy hc hg hm hv ha hn hdb he hpl).imp fun σ H Q q => cbn_read q
/-- xs + ys, the new list one's own -/
def gCat : D → D → Option O
  | .list xs, .list ys => if xs.length + ys.length ≤ sizeLine then some (.lst (xs ++ ys)) else none
  | _, _ => none
theorem opCatN : OpR X (binaryOp .Add) (rDN X.K gCat) := by
  intro pins s σ H x y v u Q I rx ry ⟨d, e, z, hd, he, hz, k⟩
  unfold gCat at hz
  split at hz
  · split at hz
    · rename_i hl
      cases hz
      obtain ⟨a, xs, rfl, h1, r1⟩ := hd.lstv
      obtain ⟨b, ys, rfl, h2, r2⟩ := he.lstv
      exact op_catF pins s σ H _ _ _ _ Q I rx ry ⟨a, b, xs, ys, rfl, rfl, h1.sq, h2.sq, by rw [r1.len, r2.len]; exact hl, fun p hp => k p _ hp (same_new hp) ⟨_, upd_same, (r1.append r2).kp (.same (same_new hp))⟩⟩
    · cases hz
  · cases hz
def nOp (g : D → D → Option O) (a b : FE) : FN := fun ss => (a ss).bind fun x s1 => (b s1).bind fun y s2 => .of (g x y) s2
theorem xopN {op : Operator} {g : D → D → Option O} (ho : OpR X (binaryOp op) (rDN X.K g)) (ha : PE X a (tD X.K fa)) (hb : PE X b (tD X.K fb)) : PE X (.BinOp a op b pos) (tN X.K (nOp g fa fb)) := by
  refine (pe_op ho ha hb).imp fun σ H Q q => ?_
  obtain ⟨fx, ss, d, s3, fr, e, k⟩ := q
  obtain ⟨x, s1, e1, e⟩ := bind_ok e
  obtain ⟨y, s2, e2, e⟩ := bind_ok e
  obtain ⟨eg, rfl⟩ := of_ok e
  exact ⟨fx, ss, x, s1, fr, e1, fun v H1 k1 f1 r1 => ⟨fx, s1, y, _, f1, e2, fun u H2 k2 f2 r2 => ⟨x, y, d, r1.kp k2, r2, eg, fun p H' hp sm ow => k p H' ((k1.trans k2).trans (.same sm)) (f2.same sm) ow (f2.newAt hp)⟩⟩⟩
/-! ### texts -/
def asS : D → Option Str
  | .str x => some x
  | _ => none
theorem asS_some {d : D} {x : Str} (h : asS d = some x) : d = .str x := by
  cases d <;> first | (cases h; rfl) | cases h
theorem strsOf : ∀ {ds : List D} {bs : List Str}, ds.mapM asS = some bs → ds = bs.map .str
  | [], bs, h => by cases h; rfl
  | d :: ds, bs, h => by
    rw [List.mapM_cons] at h
    obtain ⟨b, h1, h⟩ := Option.bind_eq_some_iff.mp h
    obtain ⟨bs', h2, h⟩ := Option.bind_eq_some_iff.mp h
    cases h
    rw [asS_some h1, strsOf h2]
    rfl
theorem mapM_strs : ∀ ns : List Str, (ns.map PyData.str).mapM asS = some ns
  | [] => rfl
  | n :: ns => by rw [List.map_cons, List.mapM_cons, mapM_strs ns]; rfl
theorem RepAll.strs {K : Fg} {H : Hp} : ∀ {vs : List V} {bs : List Str}, RepAll K H vs (bs.map .str) → vs = bs.map V.str
  | [], [], _ => rfl
  | v :: vs, b :: bs, h => by
    cases h with
    | cons h r => rw [h.strv, RepAll.strs r]; rfl
  | v :: vs, [], h => by cases h
  | [], b :: bs, h => by cases h
theorem repStrs {K : Fg} {H : Hp} : ∀ bs : List Str, RepAll K H (bs.map V.str) (bs.map .str)
  | [] => .nil
  | b :: bs => .cons (.str b) (repStrs bs)
/-- s.m(e), by data -/
def gM1 (g : D → D → Option D) : D → List D → Option D := fun d es => match es with
  | [e] => g d e
  | _ => none
def eM1 (g : Str → D → Option D) (a b : FE) : FE := fun ss => (a ss).bind fun x s1 => match x with
  | .str x => (b s1).bind fun y s2 => .of (g x y) s2
  | _ => .no
theorem m1_read {r : V → List V → Hp → VK → Prop} {g : Str → D → Option D} {e : Expr} (h : PE X e (tM1 r (tD X.K fa) (tD X.K fb))) (hr : ∀ (H : Hp) (x : Str) (v : V) (d z : D) (Q : VK), Rep X.K H v d → g x d = some z → (∀ w H', Same H H' → Rep X.K H' w z → Q w H') → r (.str x) [v] H Q) : PE X e (tD X.K (eM1 g fa fb)) := by
  refine h.imp fun σ H Q q => ?_
  obtain ⟨fx, ss, d, s3, fr, e, k⟩ := q
  obtain ⟨x, s1, e1, e⟩ := bind_ok e
  split at e
  · obtain ⟨y, s2, e2, e⟩ := bind_ok e
    obtain ⟨eg, rfl⟩ := of_ok e
    refine ⟨fx, ss, _, s1, fr, e1, fun v H1 k1 f1 r1 => ?_⟩
    obtain rfl := r1.strv
    exact ⟨⟨_, rfl⟩, fx, s1, y, _, f1, e2, fun u H2 k2 f2 r2 => hr H2 _ u y d Q r2 eg fun w H' sm rw_ => k w H' ((k1.trans k2).trans (.same sm)) (f2.same sm) rw_⟩
  · cases e
def gJoin (x : Str) (d : D) : Option D := match d with
  | .list ds => (ds.mapM asS).bind fun ys => if (ys.map (·.length)).sum + ys.length * x.length ≤ 16777216 then some (.str (Txt.join x ys)) else none
  | .tuple ds => (ds.mapM asS).bind fun ys => if (ys.map (·.length)).sum + ys.length * x.length ≤ 16777216 then some (.str (Txt.join x ys)) else none
  | _ => none
theorem mJoin {apos : Pos} (ho : PE X a (tD X.K fa)) (he : PE X b (tD X.K fb)) (hs : starEach [b] X.env = [(false, eval b X.env)] := by rfl) (hbase : attributeBase a "join" X.env (eval a X.env) = eval a X.env := by rfl) (hline : (apos.endLine == pos.line) = true := by rfl) :
    PE X (.Call (.Attribute a "join" apos) [b] [] pos) (tD X.K (eM1 gJoin fa fb)) := by
  refine m1_read (pe_join ho he hs hbase hline) fun H x v d z Q rv hz k => ?_
  unfold gJoin at hz
  split at hz
  · obtain ⟨ys, h1, h2⟩ := Option.bind_eq_some_iff.mp hz
    split at h2
    · rename_i hl
      cases h2
      obtain ⟨q, xs, rfl, g1, r1⟩ := rv.lstv
      rw [strsOf h1] at r1
      rw [r1.strs] at g1
      exact ⟨x, q, ys, rfl, rfl, .inl g1.sq, hl, k _ _ (Same.refl H) (.str _)⟩
    · cases h2
  · obtain ⟨ys, h1, h2⟩ := Option.bind_eq_some_iff.mp hz
    split at h2
    · rename_i hl
      cases h2
      obtain ⟨q, xs, rfl, g1, r1⟩ := rv.tupv
      rw [strsOf h1] at r1
      rw [r1.strs] at g1
      exact ⟨x, q, ys, rfl, rfl, .inr g1, hl, k _ _ (Same.refl H) (.str _)⟩
    · cases h2
  · cases hz
end
end Dt

/-! Dt11: the ends. -/
namespace Dt
open PySem PySem.Spec L2
open PyProof.Rows hiding St
section
variable {K : Fg} {h : Heap} {mg : Str → Option Value}
theorem at_mk {x : Str} {st : Stmt} {ps : List Str} {f : Addr} {od an : Option Addr} {sl : Array (Option Value)} {oc kV dc pm cd ct : Value} (X : K.In h) (G : h.Ns mainGlobals mg)
    (a : PySem.W.nsIn K mainGlobals x = some (some (.ref f))) (l : K.lookup f = some ⟨oc, od, .func (PySem.W.fnOf x x (defArgs st) (defBody st) (defScope st) .none kV dc pm an cd ct), sl⟩) (c : PySem.W.codeIn K cd x = true) (k : PySem.W.keepIn K (.ref f) = true)
    (b : ∀ (kV doc pm : Value) (an : Option Addr) (cdv ct : Value) (us : List Value), us.length = ps.length → bindArgs (PySem.W.fnOf x x (defArgs st) (defBody st) (defScope st) .none kV doc pm an cdv ct) ⟨us, []⟩ = pure (ps.zip us)) : At K mg x st ps := by
  have F := fun_mk (st := st) l c k
  exact ⟨f, _, F, PySem.W.mg_of X G a, b kV dc pm an cd ct⟩
theorem no_mk {x : Str} (X : K.In h) (G : h.Ns mainGlobals mg) (z : PySem.W.nsIn K mainGlobals x = some none) : mg x = none := PySem.W.mg_none_of X G z
theorem gl_int {x : Str} {n : Int} {t : Tok} (X : K.In h) (G : h.Ns mainGlobals mg) (z : PySem.W.nsIn K mainGlobals x = some (some (.int n t))) : GlD K mg x (.int n) := ⟨.int n, _, PySem.W.mg_of X G z, ⟨t, rfl⟩, fun _ => .int n⟩
theorem gl_str {x y : Str} {t : Tok} (X : K.In h) (G : h.Ns mainGlobals mg) (z : PySem.W.nsIn K mainGlobals x = some (some (.str y t))) : GlD K mg x (.str y) := ⟨.str y, _, PySem.W.mg_of X G z, ⟨t, rfl⟩, fun _ => .str y⟩
/-- data of the written part -/
inductive RepK (K : Fg) : Value → V → D → Prop
  | int {n : Int} {t : Tok} : RepK K (.int n t) (.int n) (.int n)
  | str {x : Str} {t : Tok} : RepK K (.str x t) (.str x) (.str x)
  | tup {a : Addr} {o : Obj} {us : Array Value} {n : Nat} {vs : List V} {ds : List D} : K.lookup a = some o → o.cls = .type "tuple" → o.data = .seq us n → us.size ≤ sizeLine → Vals vs us.toList → (∀ H, RepAll K H vs ds) → RepK K (.ref a) (.ref a) (.tuple ds)
theorem RepK.rep {u : Value} {v : V} {d : D} (h : RepK K u v d) : RelV v u ∧ ∀ H, Rep K H v d := by
  cases h with
  | @int n t => exact ⟨⟨t, rfl⟩, fun _ => .int n⟩
  | @str x t => exact ⟨⟨t, rfl⟩, fun _ => .str x⟩
  | tup l c d s r q => exact ⟨rfl, fun H => .tup (.inr ⟨_, _, _, l, c, d, s, r⟩) (q H)⟩
inductive RepsK (K : Fg) : Nat → List Value → List V → List D → Prop
  | nil : RepsK K 0 [] [] []
  | cons {n : Nat} {u : Value} {us : List Value} {v : V} {vs : List V} {d : D} {ds : List D} : RepK K u v d → RepsK K n us vs ds → RepsK K (n + 1) (u :: us) (v :: vs) (d :: ds)
theorem RepsK.reps {n : Nat} {us : List Value} {vs : List V} {ds : List D} (h : RepsK K n us vs ds) : us.length = n ∧ Vals vs us ∧ ∀ H, RepAll K H vs ds := by
  induction h with
  | nil => exact ⟨rfl, .nil, fun _ => .nil⟩
  | cons h _ ih => exact ⟨by rw [List.length_cons, ih.1], .cons h.rep.1 ih.2.1, fun H => .cons (h.rep.2 H) (ih.2.2 H)⟩
theorem kt {a : Addr} {od : Option Addr} {us : List Value} {n m : Nat} {sl : Array (Option Value)} {vs : List V} {ds : List D} (l : K.lookup a = some ⟨.type "tuple", od, .seq us.toArray n, sl⟩) (r : RepsK K m us vs ds) (hs : m ≤ 1000 := by decide) : RepK K (.ref a) (.ref a) (.tuple ds) :=
  .tup l rfl rfl (by rw [List.size_toArray, r.reps.1]; exact Nat.le_trans hs (by decide)) r.reps.2.1 r.reps.2.2
theorem gl_mk {x : Str} {u : Value} {v : V} {d : D} (X : K.In h) (G : h.Ns mainGlobals mg) (z : PySem.W.nsIn K mainGlobals x = some (some u)) (r : RepK K u v d) : GlD K mg x d := ⟨v, u, PySem.W.mg_of X G z, r.rep.1, r.rep.2⟩
end
theorem bind1 {fd : FuncData} {x : Str} (b : ∀ us : List Value, us.length = [x].length → bindArgs fd ⟨us, []⟩ = pure ([x].zip us)) (s : Shared) (u : Value) : BindsTo s fd ⟨[u], []⟩ [(x, u)] := .of_eq (b [u] rfl)
/-- the promise of a law -/
def spLaw (K : Fg) : Sp := fun vs H Q _ => ∃ (a : Addr) (ns : List Int), vs = [.ref a] ∧ LstF K H a (ns.map V.int) ∧ ns.length ≤ 63 ∧ ∀ H', Q (.bl true) H'
theorem rep_ints {K : Fg} {H : Hp} : ∀ ns : List Int, RepAll K H (ns.map V.int) (ns.map .int)
  | [] => .nil
  | n :: ns => .cons (.int n) (rep_ints ns)
theorem law_imp {K : Fg} {F : FnS} (hF : ∀ ns : List Int, ns.length ≤ 63 → ∃ args, F [.imm (.list (ns.map .int))] = some (.imm (.bool true), args)) (vs : List V) (H : Hp) (Q : VK) (E : XK) (h : spLaw K vs H Q E) : spOf K F 1 vs H Q E := by
  obtain ⟨a, ns, rfl, hS, hl, k⟩ := h
  obtain ⟨args, e⟩ := hF ns hl
  refine ⟨rfl, _, _, _, ⟨rfl, fun i sl v h1 h2 => ?_, fun i j o u v h1 => ?_⟩, e, fun v H' pc => ?_⟩
  · cases i with
    | zero => cases h1; cases h2; exact .lst hS (rep_ints ns)
    | succ i => cases h1
  · cases i with
    | zero => cases h1
    | succ i => cases h1
  · have r := pc.ret
    obtain rfl := r.bool
    exact k H'
theorem law_in {K : Fg} {H : Hp} {a : Addr} {ns : List Int} (hl : ns.length ≤ 63) (o : Only H) (hS : SqL K H a (ns.map V.int)) : spLaw K [.ref a] H (fun v _ => v = .bl true) fun _ _ _ => False := by
  refine ⟨a, ns, rfl, ?_, hl, fun _ => rfl⟩
  rcases hS with (h | ⟨o, h⟩) | h
  · rcases o a with z | ⟨_, _, z⟩
    · rw [z] at h; cases h
    · rw [z] at h; cases h
  · exact .inl ⟨o, h⟩
  · exact .inr h
end Dt

/-! Dt12: f-strings, methods of texts, xs[::-1] of a tuple. -/
namespace Dt
open PySem PySem.Spec L2
open PyProof.Rows hiding St
section
variable {X : Cx} {a b : Expr} {es : List Expr} {pos p : Pos} {f g fa fb : FE} {fs : List FE}
/-! ### f-strings -/
def jD (f : FE) : FE := fun ss => (f ss).bind fun d s1 => match d with
  | .str y => if y.length ≤ sizeLine then .ok (.str y) s1 else .no
  | .int i => if i.natAbs.log2 < 1920 then .ok (.str (toString i)) s1 else .no
  | _ => .no
theorem jd (h : PE X a (tD X.K f)) : PE X (.FormattedValue a (-1) none pos) (tD X.K (jD f)) := by
  refine (pe_fmt h).imp fun σ H Q q => ?_
  obtain ⟨fx, ss, d, s3, fr, e, k⟩ := q
  obtain ⟨x, s1, e1, e⟩ := bind_ok e
  split at e
  · split at e
    · rename_i hl
      cases e
      exact ⟨fx, ss, _, _, fr, e1, fun v H1 k1 f1 r1 => .inl ⟨_, r1.strv, hl, k _ _ k1 f1 (.str _)⟩⟩
    · cases e
  · split at e
    · rename_i hl
      cases e
      exact ⟨fx, ss, _, _, fr, e1, fun v H1 k1 f1 r1 => .inr ⟨_, r1.intv, hl, k _ _ k1 f1 (.str _)⟩⟩
    · cases e
  · cases e
def jsF : List FE → Str → SS → Res Str
  | [], acc, ss => .ok acc ss
  | f :: fs, acc, ss => (f ss).bind fun d s1 => match d with
    | .str y => if (acc ++ y).length ≤ sizeLine then jsF fs (acc ++ y) s1 else .no
    | _ => .no
def eJ (fs : List FE) : FE := fun ss => (jsF fs Str.empty ss).bind fun x s1 => .ok (.str x) s1
theorem js_read {K : Fg} {fx : Fx} : ∀ {fs : List FE} {acc out : Str} {ss s3 : SS} {σ : St} {H : Hp} {Q : Str → Hp → Prop}, FR K fx ss σ H → jsF fs acc ss = .ok out s3 → (∀ H', Kp H H' → FR K fx s3 σ H' → Q out H') → tJs (fs.map (tD K)) acc σ H Q
  | [], acc, out, ss, s3, σ, H, Q, fr, e, k => by
    cases e
    exact k H (Kp.refl H) fr
  | f :: fs, acc, out, ss, s3, σ, H, Q, fr, e, k => by
    unfold jsF at e
    obtain ⟨x, s1, e1, e⟩ := bind_ok e
    split at e
    · split at e
      · rename_i hl
        exact ⟨fx, ss, _, s1, fr, e1, fun v H1 k1 f1 r1 => ⟨_, r1.strv, hl, js_read f1 e fun H' k2 f2 => k H' (k1.trans k2) f2⟩⟩
      · cases e
    · cases e
theorem jn : PJ X [] (([] : List FE).map (tD X.K)) := .nil
theorem jc (h : PE X a (tD X.K f)) (r : PJ X es (fs.map (tD X.K))) : PJ X (a :: es) ((f :: fs).map (tD X.K)) := .cons h r
theorem xj {v1 v2 : Expr} {rest : List Expr} (h : PJ X (v1 :: v2 :: rest) (fs.map (tD X.K))) : PE X (.JoinedStr (v1 :: v2 :: rest) pos) (tD X.K (eJ fs)) := by
  refine (pe_joined h).imp fun σ H Q q => ?_
  obtain ⟨fx, ss, d, s3, fr, e, k⟩ := q
  obtain ⟨x, s1, e1, e⟩ := bind_ok e
  cases e
  exact js_read fr e1 fun H' k1 f1 => k _ _ k1 f1 (.str _)
theorem xj1 (h : PE X a (tD X.K f)) : PE X (.JoinedStr [a] pos) (tD X.K f) := pe_joined1 h
/-! ### x.m(e) -/
def nM1 (g : Str → D → Option O) (a b : FE) : FN := fun ss => (a ss).bind fun x s1 => match x with
  | .str x => (b s1).bind fun y s2 => .of (g x y) s2
  | _ => .no
theorem m1n_read {r : V → List V → Hp → VK → Prop} {g : Str → D → Option O} {e : Expr} (h : PE X e (tM1 r (tD X.K fa) (tD X.K fb))) (hr : ∀ (H : Hp) (x : Str) (v : V) (d : D) (z : O) (Q : VK), Rep X.K H v d → g x d = some z → (∀ p H', H p = none → Same H H' → OwnAt X.K H' p z → Q (.ref p) H') → r (.str x) [v] H Q) : PE X e (tN X.K (nM1 g fa fb)) := by
  refine h.imp fun σ H Q q => ?_
  obtain ⟨fx, ss, d, s3, fr, e, k⟩ := q
  obtain ⟨x, s1, e1, e⟩ := bind_ok e
  split at e
  · obtain ⟨y, s2, e2, e⟩ := bind_ok e
    obtain ⟨eg, rfl⟩ := of_ok e
    refine ⟨fx, ss, _, s1, fr, e1, fun v H1 k1 f1 r1 => ?_⟩
    obtain rfl := r1.strv
    exact ⟨⟨_, rfl⟩, fx, s1, y, _, f1, e2, fun u H2 k2 f2 r2 => hr H2 _ u y d Q r2 eg fun p H' hp sm ow => k p H' ((k1.trans k2).trans (.same sm)) (f2.same sm) ow (f2.newAt hp)⟩
  · cases e
def gSplit (x : Str) (d : D) : Option O := match d with
  | .str b => if (b.length == 0) = false ∧ x.length + 2 ≤ sizeLine then some (.lst ((Txt.split x b).map .str)) else none
  | _ => none
theorem mSplit {apos : Pos} (ho : PE X a (tD X.K fa)) (he : PE X b (tD X.K fb)) (hs : starEach [b] X.env = [(false, eval b X.env)] := by rfl) (hbase : attributeBase a "split" X.env (eval a X.env) = eval a X.env := by rfl) (hline : (apos.endLine == pos.line) = true := by rfl) :
    PE X (.Call (.Attribute a "split" apos) [b] [] pos) (tN X.K (nM1 gSplit fa fb)) := by
  refine m1n_read (pe_split ho he hs hbase hline) fun H x v d z Q rv hz k => ?_
  unfold gSplit at hz
  split at hz
  · split at hz
    · rename_i hl
      cases hz
      obtain rfl := rv.strv
      exact ⟨_, _, rfl, rfl, hl.1, hl.2, fun p hp => k p _ hp (same_new hp) ⟨_, upd_same, repStrs _⟩⟩
    · cases hz
  · cases hz
end
/-! ### t[::-1] -/
theorem places_rev (n : Nat) : Builtin.Slice.slicePlaces ((n : Int) - 1) (-1) (-1) = n := by
  unfold Builtin.Slice.slicePlaces
  have h1 : ¬ ((-1 : Int) > 0) := by omega
  simp only [h1, if_false]
  have e : (- -1 : Int) = 1 := by decide
  rw [e, Int.ediv_one]
  split <;> omega
theorem pick_rev (xs : Array Value) : ((List.range xs.size).filterMap fun (m : Nat) => xs[(((xs.size : Int) - 1) + (m : Int) * (-1)).toNat]?) = xs.toList.reverse := by
  have e : ∀ m ∈ List.range xs.size, xs[(((xs.size : Int) - 1) + (m : Int) * (-1)).toNat]? = xs.toList.reverse[m]? := fun m hm => by
    have hm := List.mem_range.mp hm
    rw [List.getElem?_reverse (by rw [Array.length_toList]; exact hm), Array.length_toList, Array.getElem?_toList]
    congr 1
    omega
  have hc : ∀ (l : List Nat) (f g : Nat → Option Value), (∀ m ∈ l, f m = g m) → l.filterMap f = l.filterMap g := fun l f g => by
    induction l with
    | nil => exact fun _ => rfl
    | cons x l ih => intro h; rw [List.filterMap_cons, List.filterMap_cons, h x List.mem_cons_self, ih fun m hm => h m (List.mem_cons_of_mem _ hm)]
  rw [hc _ _ _ e]
  have h := PySem.W.krv_all xs.toList.reverse.toArray
  simp only [List.size_toArray, List.length_reverse, Array.length_toList] at h
  refine Eq.trans ?_ h
  exact hc _ _ _ fun m _ => by simp
theorem applied_rev {prog : Program} {w : World} {A : Around} {E : Value → Shared → Prop} {s : Shared} {sl : Addr} {vl vu vs : Value} {n : Nat} {Q : Int × Int × Nat → Shared → Prop} (hs : s.heap.IsSliceOf sl vl vu vs) (pl : IsPart vl none) (pu : IsPart vu none) (ps : IsPart vs (some (-1)))
    (h : Q ((n : Int) - 1, -1, n) s) : wpAny (model prog w) A (Builtin.Slice.sliceApplied (.ref sl) (pure (n : Int))) Q E s := by
  obtain ⟨os, hos, hcs, hds⟩ := id hs
  unfold Builtin.Slice.sliceApplied Builtin.Slice.sliceFields
  refine wpAny_bind (wpAny_bind (wpAny_field hos hds (x := vl) rfl (wpAny_bind (wpAny_field hos hds (x := vu) rfl (wpAny_bind (wpAny_field hos hds (x := vs) rfl (wpAny_pure ?_)))))))
  refine wpAny_bind (HT.slicePart_ ps ?_)
  show wpAny _ _ (if ((-1 : Int) == 0) = true then _ else _) _ _ s
  rw [if_neg (by decide)]
  refine wpAny_bind (HT.slicePart_ pl (wpAny_bind (HT.slicePart_ pu (wpAny_bind (wpAny_pure ?_)))))
  show wpAny _ _ (pure ((n : Int) - 1, (-1 : Int), Builtin.Slice.slicePlaces ((n : Int) - 1) (-1) (-1))) _ _ s
  rw [places_rev]
  exact wpAny_pure h
theorem getItem_tuple_rev {prog : Program} {w : World} {A : Around} {E : Value → Shared → Prop} {s : Shared} {t sl : Addr} {items : Array Value} {vl vu vs : Value} {Q : Value → Shared → Prop} (ht : IsTup s.heap t items) (hs : s.heap.IsSliceOf sl vl vu vs) (pl : IsPart vl none) (pu : IsPart vu none) (ps : IsPart vs (some (-1)))
    (h : Q (.ref s.heap.objs.size) { s with heap := s.heap.push { cls := .type "tuple", data := .seq items.toList.reverse.toArray } })
    (hsz : items.size ≤ sizeLine) : wpAny (model prog w) A (getItem (.ref t) (.ref sl)) Q E s := by
  have htake : sizeOk (.seq items.toList.reverse.toArray) := by
    show items.toList.reverse.toArray.size ≤ sizeLine
    rw [List.size_toArray, List.length_reverse, Array.length_toList]
    exact hsz
  obtain ⟨os, hos, hcs, hds⟩ := id hs
  have hTs : s.TypeIs (.ref sl) "slice" := ⟨os, hos, hcs⟩
  unfold getItem
  try with_reducible refine wpAny_holding ?_
  first | refine wpAny_bind (wpAny_pure ?_) | skip
  refine wpAny_bind (wpAny_sequenceKey ht.typeIs (by decide) ?_)
  refine wpAny_bind (wpAny_callSpecial?_slot (name := Str.ofString "__getitem__") ht.typeIs PyProof.Rows.slot_tuple_getitem
    (wpAny_call_entry PyProof.Rows.slot_tuple_getitem ht.typeIs entry_tuple_getitem ?_ (args_tuple_getitem _ _)))
  show wpAny _ _ (Builtin.Tuple.tupleItemsOf (.ref t) >>= _) _ _ s
  refine wpAny_bind (tupleItemsOf_ ht ?_)
  refine wpAny_bind (wpAny_typeOf hTs ?_)
  rw [if_pos (by decide)]
  refine wpAny_bind (applied_rev hs pl pu ps ?_)
  have hno : ¬ ((((items.size : Int) - 1) == 0 && (-1 : Int) == 1 && items.size == items.size) = true) := by
    intro q
    rw [Bool.and_eq_true, Bool.and_eq_true] at q
    exact absurd q.1.2 (by decide)
  show wpAny _ _ (if (((items.size : Int) - 1) == 0 && (-1 : Int) == 1 && items.size == items.size) = true then _ else _) _ _ s
  rw [if_neg hno, pick_rev]
  first
    | exact wpAny_bind (m := Builtin.Tuple.tupleExact _) (wpAny_newObj_type (wpAny_pure ⟨_, rfl, wpAny_pure h⟩) htake)
    | exact wpAny_bind (m := Builtin.Tuple.tupleExact _) (wpAny_newObj_type (wpAny_bind (wpAny_pure (wpAny_pure ⟨_, rfl, wpAny_pure h⟩))) htake)
    | exact wpAny_bind (wpAny_bind (m := Builtin.Tuple.tupleExact _) (wpAny_newObj_type (wpAny_pure (wpAny_pure ⟨_, rfl, wpAny_pure h⟩)) htake))
    | exact wpAny_bind (wpAny_bind (m := Builtin.Tuple.tupleExact _) (wpAny_newObj_type (wpAny_pure ⟨_, rfl, wpAny_pure h⟩) htake))
section
variable {X : Cx} {a : Expr} {pos p1 p2 p3 : Pos} {k : Nat} {f : FE}
def tRevT (K : PySem.W.Frag) (te : TE) : TE := fun σ H Q => te σ H fun x H1 => ∃ a xs, x = .ref a ∧ SqT K H1 a xs ∧ ∀ p, H1 p = none → Q (.ref p) (upd H1 p (.tup xs.reverse))
theorem pe_revT {e : Expr} {te : TE} (he : PE X e te) : PE X (.Subscript e (.Slice none none (some (.UnaryOp .USub (.Constant (.int 1) k p1) p2)) p3) pos) (tRevT X.K te) := by
  refine ⟨fun pins s σ H Q I h => ?_⟩
  refine Subscript_ (thn (he.run pins s σ H _ I h) fun v s1 ⟨x, H1, I1, r1, q1⟩ => ?_)
  obtain ⟨a, xs, ex, hx, q⟩ := q1
  subst ex
  cases r1
  have hst : PO X (some (.UnaryOp .USub (.Constant (.int 1) k p1) p2)) (tPart (tUn (rU fun i => .int (-i)) (tC (.int 1)))) := po_some (pe_un un_neg pe_int)
  refine wpAny_Slice (thn (po_none.run pins s1 σ H1 (fun o H2 => o = none ∧ H2 = H1) I1 ⟨rfl, rfl⟩) fun vl s2 ⟨l, H2, I2, pl, el, e2⟩ => ?_)
  subst el e2
  refine thn (po_none.run pins s2 σ H2 (fun o H3 => o = none ∧ H3 = H2) I2 ⟨rfl, rfl⟩) fun vu s3 ⟨u, H3, I3, pu, eu, e3⟩ => ?_
  subst eu e3
  refine thn (hst.run pins s3 σ H3 (fun o H4 => o = some (-1) ∧ H4 = H3) I3 ⟨1, rfl, -1, rfl, rfl, rfl⟩) fun vs s4 ⟨o, H4, I4, ps, eo, e4⟩ => ?_
  subst eo e4
  have I5 : Inv X pins σ H4 { s4 with heap := s4.heap.push { cls := .type "slice", data := .fields #[vl, vu, vs] } } := I4.kept (t' := s4.toks) fun b ob q => Heap.get?_push_of_some _ q
  obtain ⟨its, r, ht, hz⟩ := I5.tuple hx
  have hlen := r.length
  show wpAny (model X.prog X.w) X.A (subscriptTail e (.Slice none none (some (.UnaryOp .USub (.Constant (.int 1) k p1) p2)) p3) (.ref a) (.ref s4.heap.objs.size)) (EP X pins σ Q) X.xe { s4 with heap := s4.heap.push { cls := .type "slice", data := .fields #[vl, vu, vs] } }
  refine tail_any (ops := [.ref a, .ref s4.heap.objs.size]) ht.typeIs (PyProof.Rows.slot_tuple_getitem.lookup) ?_ (by with_unfolding_all rfl)
  refine getItem_tuple_rev ht (Heap.IsSliceOf.new _ vl vu vs) pl pu ps ?_ (by rw [List.size_toArray]; omega)
  refine ⟨.ref _, _, I5.laid (t' := s4.toks) (o := .tup xs.reverse) (fun b ob q => Heap.get?_push_of_some _ q) (Nat.le_refl _) ?_, rfl, q _ (I5.hok.fresh (Nat.le_refl _))⟩
  exact ⟨by rw [List.length_reverse]; exact hz, _, r.reverse, IsTup.new _ _⟩
def eRev (f : FE) : FE := fun ss => (f ss).bind fun d s1 => match d with
  | .tuple ds => .ok (.tuple ds.reverse) s1
  | _ => .no
theorem xrev (h : PE X a (tD X.K f)) : PE X (.Subscript a (.Slice none none (some (.UnaryOp .USub (.Constant (.int 1) k p1) p2)) p3) pos) (tD X.K (eRev f)) := by
  refine (pe_revT h).imp fun σ H Q q => ?_
  obtain ⟨fx, ss, d, s3, fr, e, k⟩ := q
  obtain ⟨x, s1, e1, e⟩ := bind_ok e
  split at e
  · cases e
    refine ⟨fx, ss, _, _, fr, e1, fun v H1 k1 f1 r1 => ?_⟩
    obtain ⟨q, xs, rfl, h1, r1⟩ := r1.tupv
    refine ⟨q, xs, rfl, h1, fun p hp => k _ _ (k1.trans (.same (same_new hp))) (f1.same (same_new hp)) (.tup (.inl (.inl upd_same)) (r1.reverse.kp (.same (same_new hp))))⟩
  · cases e
end
end Dt

set_option maxHeartbeats 4000000
/-! Dt13: sorted(set(xs)) of a list of ints. The walk of set(xs) is HandS.SetFor's of a tuple, turned to a list. -/
namespace DtS
open PySem PySem.Spec PyProof.Rows L2
section
variable {P : Program} {w : World} {A : Around} {E : Value → Shared → Prop} {s : Shared}
theorem call_set_lstI {l : Addr} {items : Array Value} (ns : List Int) {Q : Value → Shared → Prop} (hh : A.handled = none) (hl : s.heap.IsList l items) (hit : IntsAre items.toList ns) (hb : ns.length + 1 < scanBound)
    (h : ∀ (h' : Heap) (tk c : Nat), SetR w h' s.heap.objs.size (fun j => decide (j ∈ ns)) c → c ≤ ns.length → (∀ b o, s.heap.get? b = some o → h'.get? b = some o) → Q (.ref s.heap.objs.size) { s with heap := h', toks := tk }) :
    wpAny (model P w) A (call (.type "set") [.ref l]) Q E s := by
  have hisz : items.size = ns.length := by
    have q := IntsAre.length hit
    rw [Array.length_toList] at q
    exact q
  obtain ⟨c, tl, hmro⟩ := F.called_set.mro
  have hmade := F.called_set.made
  have hsub := F.called_set.sub
  refine wpAny_call (codeAny_of_tree ?_)
  show wpAny _ _ (callAny (.type "set") _) _ _ _
  refine wpAny_pure ⟨Code.quiet_builtin _ (by decide +kernel), codeAny_builtin F.entry_type_call ?_⟩
  rw [Around.under_plain (weight_type_call_type "set" [.ref l] []) rfl]
  have h1 := F.called_set.notType
  have h2 := F.called_set.canCreate
  have hct := F.typeCall_set_1 (.ref l)
  repeat (any_goals (first | assumption | wp_step))

  refine codeAny_mono (code_set_led1 (.ref l) (E := E) (Q₁ := fun obj s₁ => obj = .ref s.heap.objs.size ∧ s₁ = { s with heap := s.heap.push { cls := .type "set", dict := none, data := .set #[] 0 (.fresh 0 0 (!w.params.followText "set-order")) } }) ⟨rfl, rfl⟩) fun r s₁ hr => ?_
  cases r with
  | error e => exact hr
  | ok fl =>
    cases fl with
    | ret obj =>
      obtain ⟨rfl, rfl⟩ := hr
      have hS : (s.heap.push { cls := .type "set", dict := none, data := .set #[] 0 (.fresh 0 0 (!w.params.followText "set-order")) }).get? s.heap.objs.size = some { cls := .type "set", dict := none, data := .set #[] 0 (.fresh 0 0 (!w.params.followText "set-order")) } := Heap.get?_push_size _ rfl
      have hT : Shared.TypeIs { s with heap := s.heap.push { cls := .type "set", dict := none, data := .set #[] 0 (.fresh 0 0 (!w.params.followText "set-order")) } } (.ref s.heap.objs.size) "set" := ⟨_, hS, rfl⟩
      have hli := F.called_set.init.lookup
      have hbi := F.called_set.init.bind (.ref s.heap.objs.size)
      repeat (any_goals (first | assumption | wp_step))

      refine codeAny_mono (codeAny_call_builtin (R := wants (fun r s₂ => r = .none ∧ ∃ h' tk c, s₂ = { s with heap := h', toks := tk } ∧ SetR w h' s.heap.objs.size (fun j => decide (j ∈ ns)) c ∧ c ≤ ns.length ∧
          (∀ b o, s.heap.get? b = some o → h'.get? b = some o)) E) F.called_set.init.plain F.entry_set_init (check_set_init_1 hT ?_)) fun r₂ s₂ hr₂ => ?_
      · obtain ⟨ol, hol, hcl, nl, hdl⟩ := hl
        obtain ⟨ocls, odict, odata, oslots⟩ := ol
        simp only at hcl hdl
        subst hcl; subst hdl
        have hol' : (s.heap.push { cls := .type "set", dict := none, data := .set #[] 0 (.fresh 0 0 (!w.params.followText "set-order")) }).get? l = some { cls := .type "list", dict := odict, data := .seq items nl, slots := oslots } := Heap.get?_push_of_some _ hol
        have hsls := F.sub_list_set
        have hslf := F.sub_list_frozenset
        have hne : (Value.type "list" == Value.type "dict") = false := by decide
        have hl1 : (s.heap.push { cls := .type "set", dict := none, data := .set #[] 0 (.fresh 0 0 (!w.params.followText "set-order")) }).IsList l items := ⟨_, hol', rfl, nl, rfl⟩
        unfold Builtin.«set.__init__» noKeywords Builtin.Frozenset.updateFrom
        generalize hPI : pyIter = PI
        wp_walk
        subst hPI

        refine wpAny_pyIter_list hl1 ?_
        refine wpAny_bind (wpAny_runValue ?_)
        have hlS : l < s.heap.objs.size := Heap.lt_size hol
        have hh3 : A.in1.in1.in1.handled = none := by simp [hh]
        have hz1 : (s.heap.push { cls := .type "set", dict := none, data := .set #[] 0 (.fresh 0 0 (!w.params.followText "set-order")) }).objs.size = s.heap.objs.size + 1 := Heap.size_push ..
        have hneI : l ≠ (s.heap.push { cls := .type "set", dict := none, data := .set #[] 0 (.fresh 0 0 (!w.params.followText "set-order")) }).objs.size := by
          rw [Heap.size_push]; exact Nat.ne_of_lt (Nat.lt_succ_of_lt hlS)
        have hSf : s.heap.objs.size ∉ [(s.heap.push { cls := .type "set", dict := none, data := .set #[] 0 (.fresh 0 0 (!w.params.followText "set-order")) }).objs.size, l] := by
          rw [Heap.size_push]; simp only [List.mem_cons, List.mem_singleton, List.not_mem_nil, or_false, not_or]
          exact ⟨Nat.ne_of_lt (Nat.lt_succ_self _), Nat.ne_of_gt hlS⟩
        have hval : ∀ (i : Nat) (v : Value), items[i]? = some v → ∃ k t, ns[i]? = some k ∧ v = .int k t := fun i v hv => by
          have hi : i < ns.length := by rw [← hisz]; exact (Array.getElem?_eq_some_iff.mp hv).1
          obtain ⟨t, e⟩ := PyProof.Rows.IntsAre.int_at hit i v (by rw [Array.getElem?_toList]; exact hv)
          refine ⟨ns[i], t, List.getElem?_eq_getElem hi, ?_⟩
          rw [e, List.getD_eq_getElem?_getD, List.getElem?_eq_getElem hi] <;> rfl
        refine set_update_ints ((Walks.list hh3 _ l hneI items).toS) s.heap.objs.size
          hSf ns hisz hb hval (items.size - 0) 0 _ (by omega) (Nat.zero_le _)
          ⟨⟨_, Heap.get?_push_size _ rfl, rfl, rfl⟩, (hl1.push _)⟩ ?hS0 ?hR
        case hS0 =>
          have hget : ((s.heap.push { cls := .type "set", dict := none, data := .set #[] 0 (.fresh 0 0 (!w.params.followText "set-order")) }).push { cls := .type "list_iterator", data := .fields #[.ref l, .int 0 0] }).get? s.heap.objs.size
              = some { cls := .type "set", dict := none, data := .set #[] 0 (.fresh 0 0 (!w.params.followText "set-order")) } := Heap.get?_push_of_some _ hS
          exact ⟨0, Nat.le_refl 0, setR_new_at hget⟩
        case hR =>
          intro s' c' hm hc' hS'
          obtain ⟨h', g2, d', tk', os'⟩ := s'
          have eg : g2 = s.gens := hm.gens
          have ed : d' = s.drawn := hm.drawn
          have eo : os' = s.os := hm.os
          subst eg; subst ed; subst eo
          show wpAny _ _ _ _ _ _
          refine wpAny_pure ?_
          show wpAny _ _ (ret Value.none) _ _ _
          rw [hisz] at hc'
          refine wpAny_pure ⟨rfl, h', tk', c', rfl, hS', hc', fun b o e => ?_⟩
          have hb0 : b < s.heap.objs.size := Heap.lt_size e
          have hb1 : b ≠ s.heap.objs.size := Nat.ne_of_lt hb0
          have hb2 : b ≠ (s.heap.push { cls := .type "set", dict := none, data := .set #[] 0 (.fresh 0 0 (!w.params.followText "set-order")) }).objs.size := by
            rw [Heap.size_push]; exact Nat.ne_of_lt (Nat.lt_succ_of_lt hb0)
          exact hm.heap b o (by simp only [List.mem_cons, List.mem_singleton, List.not_mem_nil, or_false, not_or]; exact ⟨hb1, hb2⟩) (Heap.get?_push_of_some _ (Heap.get?_push_of_some _ e))

      · cases r₂ with
        | error e => exact hr₂
        | ok fl₂ =>
          cases fl₂ with
          | ret r =>
            obtain ⟨rfl, h', tk, c', rfl, hS', hc', hk'⟩ := hr₂
            repeat (any_goals (first | assumption | wp_step))
            exact h _ _ _ hS' hc' hk'
          | _ => exact hr₂.elim
    | _ => exact hr.elim

end
end DtS

/-! Dt14: the reading of sorted(set(xs)), ints, fewer than 64. -/
namespace Dt
open PySem PySem.Spec L2
open PyProof.Rows hiding St
def insU (x : Int) : List Int → List Int
  | [] => [x]
  | y :: r => if x < y then x :: y :: r else if x = y then y :: r else y :: insU x r
/-- in order, each once -/
def uset (ns : List Int) : List Int := ns.foldr insU []
theorem insU_mem (x k : Int) : ∀ l : List Int, k ∈ insU x l ↔ k = x ∨ k ∈ l
  | [] => by simp [insU]
  | y :: r => by
    unfold insU
    split
    · simp
    · split
      · rename_i h; subst h; simp
      · simp [insU_mem x k r]
        constructor
        · rintro (h | h | h)
          · exact .inr (.inl h)
          · exact .inl h
          · exact .inr (.inr h)
        · rintro (h | h | h)
          · exact .inr (.inl h)
          · exact .inl h
          · exact .inr (.inr h)
theorem insU_pair (x : Int) : ∀ l : List Int, l.Pairwise (· < ·) → (insU x l).Pairwise (· < ·)
  | [], _ => by simp [insU]
  | y :: r, h => by
    obtain ⟨h1, h2⟩ := List.pairwise_cons.mp h
    unfold insU
    split
    · rename_i hx
      refine List.pairwise_cons.mpr ⟨fun z hz => ?_, h⟩
      rcases List.mem_cons.mp hz with rfl | hz
      · exact hx
      · exact Int.lt_trans hx (h1 z hz)
    · split
      · exact h
      · refine List.pairwise_cons.mpr ⟨fun z hz => ?_, insU_pair x r h2⟩
        rcases (insU_mem x z r).mp hz with rfl | hz
        · omega
        · exact h1 z hz
theorem uset_mem (k : Int) : ∀ ns : List Int, k ∈ uset ns ↔ k ∈ ns
  | [] => Iff.rfl
  | n :: ns => by
    show k ∈ insU n (uset ns) ↔ _
    rw [insU_mem, uset_mem k ns, List.mem_cons]
theorem uset_pair : ∀ ns : List Int, (uset ns).Pairwise (· < ·)
  | [] => .nil
  | n :: ns => insU_pair n _ (uset_pair ns)
theorem pair_ext : ∀ {l m : List Int}, l.Pairwise (· < ·) → m.Pairwise (· < ·) → (∀ k, k ∈ l ↔ k ∈ m) → l = m
  | [], [], _, _, _ => rfl
  | [], y :: m, _, _, e => absurd ((e y).mpr List.mem_cons_self) (by simp)
  | x :: l, [], _, _, e => absurd ((e x).mp List.mem_cons_self) (by simp)
  | x :: l, y :: m, h, k, e => by
    obtain ⟨h1, h2⟩ := List.pairwise_cons.mp h
    obtain ⟨k1, k2⟩ := List.pairwise_cons.mp k
    have a : x = y := by
      rcases List.mem_cons.mp ((e x).mp List.mem_cons_self) with h | h
      · exact h
      · rcases List.mem_cons.mp ((e y).mpr List.mem_cons_self) with h' | h'
        · exact h'.symm
        · have := k1 x h; have := h1 y h'; omega
    subst a
    refine congrArg (x :: ·) (pair_ext h2 k2 fun z => ⟨fun hz => ?_, fun hz => ?_⟩)
    · rcases List.mem_cons.mp ((e z).mp (List.mem_cons_of_mem _ hz)) with rfl | h'
      · have := h1 z hz; omega
      · exact h'
    · rcases List.mem_cons.mp ((e z).mpr (List.mem_cons_of_mem _ hz)) with rfl | h'
      · have := k1 z hz; omega
      · exact h'
section
variable {X : Cx} {a : Expr} {p p2 q pos : Pos} {f : FE}
def tSS (K : PySem.W.Frag) (ta : TE) : TE := fun σ H Q => ta σ H fun x H1 => ∃ (l : Addr) (ns : List Int), x = .ref l ∧ SqL K H1 l (ns.map V.int) ∧ ns.length < 64 ∧ ∀ p, H1 p = none → Q (.ref p) (upd H1 p (.lst ((uset ns).map V.int)))
theorem pe_ss {ta : TE} (hc : X.calm = true) (hg : Gl X "sorted") (hm : X.mg "sorted" = none) (hg2 : Gl X "set") (hm2 : X.mg "set" = none) (ha : PE X a ta)
    (na : starEach [a] X.env = (false, eval a X.env) :: starEach [] X.env := by rfl) : PE X (.Call (.Name "sorted" p) [.Call (.Name "set" p2) [a] [] q] [] pos) (tSS X.K ta) := by
  refine ⟨fun pins s σ H Q I h => ?_⟩
  refine Call_ (ld_blt I hg hm PyProof.Rows.boot_sorted ?_)
  refine PyProof.Rows.callWith_builtin1 (PyProof.Rows.args_cons ?_ rfl) rfl rfl
  refine Call_ (ld_blt I hg2 hm2 boot_set ?_)
  refine PyProof.Rows.callWith_type1 (PyProof.Rows.args_cons (thn (ha.run pins s σ H _ I h) fun v s1 ⟨x, H1, I1, r1, q1⟩ => PyProof.Rows.args_nil ?_) na) na rfl
  obtain ⟨l, ns, rfl, hq, hl, k⟩ := q1
  cases r1
  obtain ⟨its, r, ht, hz⟩ := I1.list hq
  have hi : IntsAre its.toArray.toList ns := by simpa using RZ.intsAre_vals r
  refine DtS.call_set_lstI ns (I1.ok.hd hc) ht.isList hi (by unfold scanBound; omega) fun h' tk c R hcn hk => PyProof.Rows.args_nil ?_
  have R : SetR X.w ({ s1 with heap := h', toks := tk } : Shared).heap s1.heap.objs.size (fun j => decide (j ∈ ns)) c := R
  have I2 : Inv X pins σ H1 { s1 with heap := h', toks := tk } := I1.kept fun b o e => hk b o e
  generalize s1.heap.objs.size = q0 at R ⊢
  generalize ({ s1 with heap := h', toks := tk } : Shared) = s2 at I2 R ⊢
  refine sorted_set (s := s2) R (I2.ok.hd hc) (by omega) fun s' p out c ms kk g o hp hgt hi2 hs hm3 hl3 => ?_
  have he : ms = uset ns := pair_ext hs (uset_pair ns) fun k => by rw [hm3, uset_mem, decide_eq_true_eq]
  subst he
  have hlen : ((uset ns).map V.int).length ≤ sizeLine := by rw [List.length_map, hl3, sizeLine_eq]; omega
  have hn : H1 p = none := I2.hok.fresh hp
  have J : Inv X pins σ (upd H1 p (.lst ((uset ns).map V.int))) { s2 with heap := s'.heap, gens := s'.gens, drawn := s'.drawn, toks := s'.toks } :=
    I2.call (ch := []) (Un.laid kk hp hn) (I2.hok.laid kk hp ⟨hlen, out.toList, c, vals_of_ints hi2, hgt⟩) (by rw [g]; exact I2.bare) (fun _ z => nomatch z)
  have e : s' = { s2 with heap := s'.heap, gens := s'.gens, drawn := s'.drawn, toks := s'.toks } := by
    cases s'
    cases s2
    cases o
    rfl
  rw [e]
  exact ⟨.ref p, _, J, rfl, k p hn⟩
def nSS (f : FE) : FN := fun ss => (f ss).bind fun d s1 => match d with
  | .list ds => match ds.mapM asI with
    | some ns => if ns.length < 64 then .ok (.lst ((uset ns).map .int)) s1 else .no
    | none => .no
  | _ => .no
theorem xss (hc : X.calm = true) (hm : X.mg "sorted" = none) (hm2 : X.mg "set" = none) (ha : PE X a (tD X.K f)) (hg : Gl X "sorted" := by rfl) (hg2 : Gl X "set" := by rfl)
    (na : starEach [a] X.env = (false, eval a X.env) :: starEach [] X.env := by rfl) : PE X (.Call (.Name "sorted" p) [.Call (.Name "set" p2) [a] [] q] [] pos) (tN X.K (nSS f)) := by
  refine (pe_ss hc hg hm hg2 hm2 ha na).imp fun σ H Q w => ?_
  obtain ⟨fx, ss, d, s3, fr, e, k⟩ := w
  obtain ⟨x, s1, e1, e⟩ := bind_ok e
  split at e
  · split at e
    · rename_i ns hns
      split at e
      · rename_i hl
        cases e
        refine ⟨fx, ss, _, _, fr, e1, fun v H1 k1 f1 r1 => ?_⟩
        obtain ⟨l, xs, rfl, g1, r1⟩ := r1.lstv
        rw [intsOf hns] at r1
        rw [r1.ints] at g1
        exact ⟨l, ns, rfl, g1.sq, hl, fun p hp => k p _ (k1.trans (.same (same_new hp))) (f1.same (same_new hp)) ⟨_, upd_same, rep_ints _⟩ (f1.newAt hp)⟩
      · cases e
    · cases e
  · cases e
end
end Dt

/-! Dm: the plain side: what the readings compute, by simp. -/
namespace Dm
open PySem L2 Dt
@[simp] theorem q_bind_ok {α β : Type} (a : α) (s : SS) (g : α → SS → Res β) : (Res.ok a s).bind g = g a s := rfl
@[simp] theorem q_bind_no {α β : Type} (g : α → SS → Res β) : (Res.no : Res α).bind g = .no := rfl
@[simp] theorem q_of_some {α : Type} (a : α) (s : SS) : Res.of (some a) s = .ok a s := rfl
@[simp] theorem q_of_none {α : Type} (s : SS) : Res.of (none : Option α) s = .no := rfl
@[simp] theorem q_size : sizeLine = 16777216 := rfl
@[simp] theorem q_eV (i : Nat) (ss : SS) : eV i ss = match ss[i]? with
  | some (.imm d) => .ok d ss
  | _ => .no := rfl
@[simp] theorem q_eC (d : D) (ss : SS) : eC d ss = .ok d ss := rfl
@[simp] theorem q_eOp (g a b) (ss : SS) : eOp g a b ss = (a ss).bind fun x s1 => (b s1).bind fun y s2 => .of (g x y) s2 := rfl
@[simp] theorem q_nOp (g a b) (ss : SS) : nOp g a b ss = (a ss).bind fun x s1 => (b s1).bind fun y s2 => .of (g x y) s2 := rfl
@[simp] theorem q_eUn (g a) (ss : SS) : eUn g a ss = (a ss).bind fun x s1 => .of (g x) s1 := rfl
@[simp] theorem q_eCB (g a) (ss : SS) : eCB g a ss = (a ss).bind fun x s1 => .of (g x) s1 := rfl
@[simp] theorem q_nCB (g a) (ss : SS) : nCB g a ss = (a ss).bind fun x s1 => .of (g x) s1 := rfl
@[simp] theorem q_eM (g a b) (ss : SS) : eM g a b ss = (a ss).bind fun x s1 => (b s1).bind fun y s2 => .of (g x y) s2 := rfl
@[simp] theorem q_eM1 (g a b) (ss : SS) : eM1 g a b ss = (a ss).bind fun x s1 => match x with
  | .str z => (b s1).bind fun y s2 => .of (g z y) s2
  | _ => .no := by
  unfold eM1; rfl
@[simp] theorem q_lNil (ss : SS) : lNil ss = .ok [] ss := rfl
@[simp] theorem q_lCons (a b) (ss : SS) : lCons a b ss = (a ss).bind fun x s1 => (b s1).bind fun y s2 => .ok (x :: y) s2 := rfl
@[simp] theorem q_eTup (a) (ss : SS) : eTup a ss = (a ss).bind fun x s1 => if x.length ≤ sizeLine then .ok (.tuple x) s1 else .no := rfl
@[simp] theorem q_nLst (a) (ss : SS) : nLst a ss = (a ss).bind fun x s1 => if x.length ≤ sizeLine then .ok (.lst x) s1 else .no := rfl
@[simp] theorem q_asB (b : Bool) : asB (.bool b) = some b := rfl
@[simp] theorem q_bOf (a) (ss : SS) : bOf a ss = (a ss).bind fun x s1 => .of (asB x) s1 := rfl
@[simp] theorem q_bAnd (a b) (ss : SS) : bAnd a b ss = (a ss).bind fun x s1 => if x = true then b s1 else .ok false s1 := rfl
@[simp] theorem q_bOr (a b) (ss : SS) : bOr a b ss = (a ss).bind fun x s1 => if x = true then .ok true s1 else b s1 := rfl
@[simp] theorem q_bNot (a) (ss : SS) : bNot a ss = (a ss).bind fun x s1 => .ok (!x) s1 := rfl
@[simp] theorem q_bYes (ss : SS) : bYes ss = .ok true ss := rfl
@[simp] theorem q_eAnd (a b) (ss : SS) : eAnd a b ss = (a ss).bind fun x s1 => match x with
  | .bool true => b s1
  | .bool false => .ok (.bool false) s1
  | _ => .no := by
  unfold eAnd; congr 1
@[simp] theorem q_eOr (a b) (ss : SS) : eOr a b ss = (a ss).bind fun x s1 => match x with
  | .bool true => .ok (.bool true) s1
  | .bool false => b s1
  | _ => .no := by
  unfold eOr; congr 1
@[simp] theorem q_eNot (a) (ss : SS) : eNot a ss = (a ss).bind fun x s1 => match x with
  | .bool b => .ok (.bool (!b)) s1
  | _ => .no := by
  unfold eNot; congr 1
@[simp] theorem q_eIf (c a b) (ss : SS) : eIf c a b ss = (c ss).bind fun x s1 => if x = true then a s1 else b s1 := rfl
@[simp] theorem q_eFz (f : FN) (ss : SS) : eFz f ss = (f ss).bind fun o s1 => .ok o.toD s1 := rfl
@[simp] theorem q_toD_l (ds) : O.toD (.lst ds) = .list ds := rfl
@[simp] theorem q_toD_d (ds) : O.toD (.dct ds) = .dict ds := rfl
@[simp] theorem q_put_o (o u) : (Sl.own o).put u = .own u := rfl
@[simp] theorem q_put_b (o u) : (Sl.bor o).put u = .bor u := rfl
@[simp] theorem q_obj_o (o) : (Sl.own o).obj = some o := rfl
@[simp] theorem q_obj_b (o) : (Sl.bor o).obj = some o := rfl
@[simp] theorem q_obj_i (o) : (Sl.imm o).obj = none := rfl
@[simp] theorem q_obj_u : (Sl.un).obj = none := rfl
@[simp] theorem q_sNil (ss : SS) : sNil ss = .nx ss := rfl
@[simp] theorem q_sSeq (a b) (ss : SS) : sSeq a b ss = (a ss).then b := rfl
@[simp] theorem q_then_nx (ss g) : (Out.nx ss).then g = g ss := rfl
@[simp] theorem q_then_rt (r ss g) : (Out.rt r ss).then g = .rt r ss := rfl
@[simp] theorem q_then_bk (ss g) : (Out.bk ss).then g = .bk ss := rfl
@[simp] theorem q_then_ct (ss g) : (Out.ct ss).then g = .ct ss := rfl
@[simp] theorem q_then_no (g) : (Out.no).then g = .no := rfl
@[simp] theorem q_sIf (c a b) (ss : SS) : sIf c a b ss = match c ss with
  | .ok x s1 => if x = true then a s1 else b s1
  | .no => .no := rfl
@[simp] theorem q_sRet (f) (ss : SS) : sRet f ss = match f ss with
  | .ok d s1 => .rt (.imm d) s1
  | .no => .no := rfl
@[simp] theorem q_sRetN (f) (ss : SS) : sRetN f ss = match f ss with
  | .ok d s1 => .rt (.own d) s1
  | .no => .no := rfl
@[simp] theorem q_sRet0 (ss : SS) : sRet0 ss = .rt (.imm .none) ss := rfl
@[simp] theorem q_sExpr (f) (ss : SS) : sExpr f ss = match f ss with
  | .ok _ s1 => .nx s1
  | .no => .no := rfl
@[simp] theorem q_sBk (ss : SS) : sBk ss = .bk ss := rfl
@[simp] theorem q_sCt (ss : SS) : sCt ss = .ct ss := rfl
@[simp] theorem q_gN (i d) (ss : SS) : Dt.gN i d ss = if i < ss.length then some (ss.set i (.imm d)) else none := rfl
@[simp] theorem q_gNil (ss : SS) : Dt.gNil [] ss = some ss := rfl
@[simp] theorem q_gCons (g h d r) (ss : SS) : Dt.gCons g h (d :: r) ss = (g d ss).bind fun s1 => h r s1 := by
  unfold Dt.gCons; cases e : g d ss <;> simp [e]
@[simp] theorem q_gTup (n g ds) (ss : SS) : gTup n g (.tuple ds) ss = if ds.length = n then g ds ss else none := rfl
@[simp] theorem q_gLst (n g ds) (ss : SS) : Dt.gLst n g (.list ds) ss = if ds.length = n then g ds ss else none := rfl
@[simp] theorem q_sAsg (f g) (ss : SS) : sAsg f g ss = match f ss with
  | .ok d s1 => match g d s1 with
    | some s2 => .nx s2
    | none => .no
  | .no => .no := rfl
@[simp] theorem q_sOwn (f i) (ss : SS) : sOwn f i ss = match f ss with
  | .ok o s1 => if i < s1.length then .nx (s1.set i (.own o)) else .no
  | .no => .no := rfl
@[simp] theorem q_sFor (src g b) (ss : SS) : sFor src g b ss = match src ss with
  | .ok ds s1 => loopF g b ds s1
  | .no => .no := rfl
@[simp] theorem q_lSeq (f) (ss : SS) : lSeq f ss = (f ss).bind fun d s1 => .of (itemsOf d) s1 := rfl
@[simp] theorem q_items_l (ds) : itemsOf (.list ds) = some ds := rfl
@[simp] theorem q_items_t (ds) : itemsOf (.tuple ds) = some ds := rfl
@[simp] theorem q_objAt (ss : SS) (i) : objAt ss i = (ss[i]?).bind Sl.obj := rfl
@[simp] theorem q_eVF (i : Nat) (ss : SS) : eVF i ss = match ss[i]? with
  | some (.imm d) => .ok d ss
  | some (.own o) => .ok o.toD (ss.set i (.imm o.toD))
  | _ => .no := rfl
@[simp] theorem q_sApp (i f) (ss : SS) : sApp i f ss = match objAt ss i with
  | some (.lst _) => match f ss with
    | .ok d s1 => match s1[i]? with
      | some s => match s.obj with
        | some (.lst ds) => if ds.length < sizeLine then .nx (s1.set i (s.put (.lst (ds ++ [d])))) else .no
        | _ => .no
      | none => .no
    | .no => .no
  | _ => .no := rfl
@[simp] theorem q_sSetL (i fi fv) (ss : SS) : sSetL i fi fv ss = match fv ss with
  | .no => .no
  | .ok d s1 => match objAt s1 i with
    | some (.lst _) => match fi s1 with
      | .ok (.int n) s2 => match s2[i]? with
        | some s => match s.obj with
          | some (.lst ds) => match ixN ds.length n with
            | some j => .nx (s2.set i (s.put (.lst (ds.set j d))))
            | none => .no
          | _ => .no
        | none => .no
      | _ => .no
    | _ => .no := rfl
@[simp] theorem q_eOix (i f) (ss : SS) : eOix i f ss = match objAt ss i with
  | some _ => (f ss).bind fun d s1 => match objAt s1 i, d with
    | some (.lst ds), .int n => .of (atI ds n) s1
    | _, _ => .no
  | none => .no := rfl
@[simp] theorem q_eOlen (i) (ss : SS) : eOlen i ss = match objAt ss i with
  | some (.lst ds) => .ok (.int ds.length) ss
  | _ => .no := rfl
@[simp] theorem q_oNone (ss : SS) : oNone ss = .ok none ss := rfl
@[simp] theorem q_eSl (f lo hi) (ss : SS) : eSl f lo hi ss = (f ss).bind fun d s1 => (lo s1).bind fun l s2 => (hi s2).bind fun h s3 => .of (dSl d l h) s3 := rfl
@[simp] theorem q_add (i j) : dAdd (.int i) (.int j) = some (.int (i + j)) := rfl
@[simp] theorem q_addl (xs ys) : dAdd (.list xs) (.list ys) = fits (xs.length + ys.length) (.list (xs ++ ys)) := rfl
@[simp] theorem q_addt (xs ys) : dAdd (.tuple xs) (.tuple ys) = fits (xs.length + ys.length) (.tuple (xs ++ ys)) := rfl
@[simp] theorem q_adds (x y) : dAdd (.str x) (.str y) = fits (x.length + y.length) (.str (x ++ y)) := rfl
@[simp] theorem q_fits (n d) : fits n d = if n ≤ sizeLine then some d else none := rfl
@[simp] theorem q_sub (i j) : dSub (.int i) (.int j) = some (.int (i - j)) := rfl
@[simp] theorem q_div (i j) : dDiv (.int i) (.int j) = if 0 < j ∧ j.natAbs.log2 < 9000 then some (.int (i / j)) else none := rfl
@[simp] theorem q_mod (i j) : dMod (.int i) (.int j) = if 0 < j then some (.int (i % j)) else none := rfl
@[simp] theorem q_neg (i) : dNeg (.int i) = some (.int (-i)) := rfl
@[simp] theorem q_mul (i j) : dMul (.int i) (.int j) = if i.natAbs.log2 + j.natAbs.log2 < 1000000 then some (.int (i * j)) else none := rfl
@[simp] theorem q_pow (i j) : dPow (.int i) (.int j) = if 0 ≤ j ∧ j ≤ 1000000 ∧ i.natAbs < 2 ^ 64 then some (.int (i ^ j.toNat)) else none := rfl
@[simp] theorem q_eq (i j) : dEq (.int i) (.int j) = some (.bool (i == j)) := rfl
@[simp] theorem q_ne (i j) : dNe (.int i) (.int j) = some (.bool (!(i == j))) := rfl
@[simp] theorem q_eqs (i j) : dEq (.str i) (.str j) = some (.bool (i == j)) := rfl
@[simp] theorem q_nes (i j) : dNe (.str i) (.str j) = some (.bool (!(i == j))) := rfl
@[simp] theorem q_lt (i j) : dLt (.int i) (.int j) = some (.bool (decide (i < j))) := rfl
@[simp] theorem q_le (i j) : dLe (.int i) (.int j) = some (.bool (decide (i ≤ j))) := rfl
@[simp] theorem q_gt (i j) : dGt (.int i) (.int j) = some (.bool (decide (j < i))) := rfl
@[simp] theorem q_ge (i j) : dGe (.int i) (.int j) = some (.bool (decide (j ≤ i))) := rfl
@[simp] theorem q_ixl (ds i) : dIx (.list ds) (.int i) = atI ds i := rfl
@[simp] theorem q_ixt (ds i) : dIx (.tuple ds) (.int i) = atI ds i := rfl
@[simp] theorem q_is_n (T) : dIs T .none = some (.bool false) := rfl
@[simp] theorem q_is_b (T b) : dIs T (.bool b) = some (.bool (T == "int" || T == "bool")) := rfl
@[simp] theorem q_is_i (T i) : dIs T (.int i) = some (.bool (T == "int")) := rfl
@[simp] theorem q_is_s (T x) : dIs T (.str x) = some (.bool (T == "str")) := rfl
@[simp] theorem q_is_l (T ds) : dIs T (.list ds) = some (.bool (T == "list")) := rfl
@[simp] theorem q_is_t (T ds) : dIs T (.tuple ds) = some (.bool (T == "tuple")) := rfl
@[simp] theorem q_eCh (g h a b c) (ss : SS) : eCh g h a b c ss = (a ss).bind fun x s1 => (b s1).bind fun y s2 => (Res.of (g x y) s2).bind fun z s3 => match z with
  | .bool true => (c s3).bind fun w s4 => .of (h y w) s4
  | .bool false => .ok (.bool false) s3
  | _ => .no := rfl
@[simp] theorem q_len_l (ds) : gLen [.list ds] = some (.int ds.length) := rfl
@[simp] theorem q_len_t (ds) : gLen [.tuple ds] = some (.int ds.length) := rfl
@[simp] theorem q_all (ds) : gAll [.list ds] = (ds.mapM asB).map fun bs => .bool (bs.all id) := rfl
@[simp] theorem q_any (ds) : gAny [.list ds] = (ds.mapM asB).map fun bs => .bool (bs.any id) := rfl
@[simp] theorem q_int_b (b) : gInt [.bool b] = some (.int (if b = true then 1 else 0)) := rfl
@[simp] theorem q_int_i (b) : gInt [.int b] = some (.int b) := rfl
@[simp] theorem q_list_l (ds) : gList [.list ds] = some (.lst ds) := rfl
@[simp] theorem q_list_t (ds) : gList [.tuple ds] = some (.lst ds) := rfl
@[simp] theorem q_oSome (f) (ss : SS) : oSome f ss = (f ss).bind fun d s1 => match d with
  | .int i => .ok (some i) s1
  | _ => .no := rfl
@[simp] theorem q_lRng1 (f) (ss : SS) : lRng1 f ss = (f ss).bind fun d s1 => match d with
  | [.int j] => if small j = true then .ok (rangeD 0 j.toNat) s1 else .no
  | _ => .no := rfl
@[simp] theorem q_eRev (f) (ss : SS) : eRev f ss = (f ss).bind fun d s1 => match d with
  | .tuple ds => .ok (.tuple ds.reverse) s1
  | _ => .no := rfl
@[simp] theorem q_nM1 (g a b) (ss : SS) : nM1 g a b ss = (a ss).bind fun x s1 => match x with
  | .str x => (b s1).bind fun y s2 => .of (g x y) s2
  | _ => .no := rfl
@[simp] theorem q_sl_l (ds lo hi) : dSl (.list ds) lo hi = some (.list (cutD ds lo hi)) := rfl
@[simp] theorem q_sl_t (ds lo hi) : dSl (.tuple ds) lo hi = some (.tuple (cutD ds lo hi)) := rfl
@[simp] theorem q_max (i j) : gMax [.int i, .int j] = some (.int (if j > i then j else i)) := rfl
@[simp] theorem q_min (i j) : gMin [.int i, .int j] = some (.int (if j < i then j else i)) := rfl
@[simp] theorem q_tup_l (ds) : gTuple [.list ds] = some (.tuple ds) := rfl
@[simp] theorem q_tup_t (ds) : gTuple [.tuple ds] = some (.tuple ds) := rfl
@[simp] theorem q_sum (ds) : gSum [.list ds] = (ds.mapM asI).map fun bs => .int bs.sum := rfl
theorem at_get {α : Type} {xs : List α} {n : Nat} {x : α} (h : xs[n]? = some x) : atI xs (n : Int) = some x := by
  have hn := (List.getElem?_eq_some_iff.mp h).1
  unfold atI ixN
  rw [if_pos (by omega), if_pos (by omega)]
  simpa using h
theorem at_none {α : Type} {xs : List α} {n : Nat} (h : xs.length ≤ n) : atI xs (n : Int) = none := by
  unfold atI ixN
  rw [if_pos (by omega), if_neg (by omega)]
  rfl
@[simp] theorem q_at0 {α : Type} (x0 : α) (xs : List α) : atI (x0 :: xs) 0 = some x0 := at_get (n := 0) rfl
@[simp] theorem q_at1 {α : Type} (x0 x1 : α) (xs : List α) : atI (x0 :: x1 :: xs) 1 = some x1 := at_get (n := 1) rfl
@[simp] theorem q_at2 {α : Type} (x0 x1 x2 : α) (xs : List α) : atI (x0 :: x1 :: x2 :: xs) 2 = some x2 := at_get (n := 2) rfl
@[simp] theorem q_at3 {α : Type} (x0 x1 x2 x3 : α) (xs : List α) : atI (x0 :: x1 :: x2 :: x3 :: xs) 3 = some x3 := at_get (n := 3) rfl
@[simp] theorem q_at4 {α : Type} (x0 x1 x2 x3 x4 : α) (xs : List α) : atI (x0 :: x1 :: x2 :: x3 :: x4 :: xs) 4 = some x4 := at_get (n := 4) rfl
@[simp] theorem q_at5 {α : Type} (x0 x1 x2 x3 x4 x5 : α) (xs : List α) : atI (x0 :: x1 :: x2 :: x3 :: x4 :: x5 :: xs) 5 = some x5 := at_get (n := 5) rfl
@[simp] theorem q_at6 {α : Type} (x0 x1 x2 x3 x4 x5 x6 : α) (xs : List α) : atI (x0 :: x1 :: x2 :: x3 :: x4 :: x5 :: x6 :: xs) 6 = some x6 := at_get (n := 6) rfl
@[simp] theorem q_at7 {α : Type} (x0 x1 x2 x3 x4 x5 x6 x7 : α) (xs : List α) : atI (x0 :: x1 :: x2 :: x3 :: x4 :: x5 :: x6 :: x7 :: xs) 7 = some x7 := at_get (n := 7) rfl
@[simp] theorem q_atL {α : Type} (x : α) (xs : List α) : atI (xs ++ [x]) (-1) = some x := by
  unfold atI ixN
  rw [if_neg (by decide), if_pos (by simp; omega)]
  have : ((-1 : Int) + ((xs ++ [x]).length : Nat)).toNat = xs.length := by rw [List.length_append, List.length_singleton]; omega
  rw [Option.bind_some, this, List.getElem?_append_right (Nat.le_refl _)]
  simp
@[simp] theorem q_ixL {α : Type} (x : α) (xs : List α) : ixN (xs ++ [x]).length (-1) = some xs.length := by
  unfold ixN
  rw [if_neg (by decide), if_pos (by simp; omega), List.length_append, List.length_singleton]
  congr 1
  omega
theorem ix_nat {n k : Nat} (h : k < n) : ixN n (k : Int) = some k := by
  unfold ixN
  rw [if_pos (by omega), if_pos (by omega)]
  rfl
theorem log_lt {x : Int} (h : x.natAbs < 2 ^ 64) : x.natAbs.log2 < 64 := by
  by_cases h0 : x.natAbs = 0
  · rw [h0]; decide
  · exact (Nat.log2_lt h0).mpr h
theorem q_log9 {n : Nat} (h : n < 18446744073709551616) : n.log2 < 9000 := by
  by_cases h0 : n = 0
  · rw [h0]; decide
  · have : n.log2 < 64 := (Nat.log2_lt h0).mpr h
    omega
@[simp] theorem q_log {n : Nat} (h : n < 18446744073709551616) : (n.log2 < 9000) = True := eq_true (q_log9 h)
theorem mul_ok {i j : Int} (h1 : i.natAbs < 2 ^ 64) (h2 : j.natAbs < 2 ^ 64) : i.natAbs.log2 + j.natAbs.log2 < 1000000 := by
  have := log_lt h1
  have := log_lt h2
  omega
@[simp] theorem q_mulok {i j : Int} (h1 : i.natAbs < 18446744073709551616) (h2 : j.natAbs < 18446744073709551616) : (i.natAbs.log2 + j.natAbs.log2 < 1000000) = True := eq_true (mul_ok h1 h2)
theorem mul_int {i j : Int} (h1 : i.natAbs < 2 ^ 64) (h2 : j.natAbs < 2 ^ 64) : dMul (.int i) (.int j) = some (.int (i * j)) := by
  rw [q_mul, if_pos (mul_ok h1 h2)]
theorem div_int {i j : Int} (h1 : 0 < j) (h2 : j.natAbs < 2 ^ 64) : dDiv (.int i) (.int j) = some (.int (i / j)) := by
  rw [q_div, if_pos ⟨h1, Nat.lt_trans (log_lt h2) (by decide)⟩]
theorem mod_int {i j : Int} (h1 : 0 < j) : dMod (.int i) (.int j) = some (.int (i % j)) := by
  rw [q_mod, if_pos h1]
/-! ### calls -/
def ev1 (F : FnS) (a : D) : Option D := match F [.imm a] with
  | some (.imm r, [_]) => some r
  | _ => none
def ev2 (F : FnS) (a b : D) : Option D := match F [.imm a, .imm b] with
  | some (.imm r, [_, _]) => some r
  | _ => none
def ev3 (F : FnS) (a b c : D) : Option D := match F [.imm a, .imm b, .imm c] with
  | some (.imm r, [_, _, _]) => some r
  | _ => none
def ev4 (F : FnS) (a b c d : D) : Option D := match F [.imm a, .imm b, .imm c, .imm d] with
  | some (.imm r, [_, _, _, _]) => some r
  | _ => none
def nv1 (F : FnS) (a : D) : Option O := match F [.imm a] with
  | some (.own r, [_]) => some r
  | _ => none
def nv2 (F : FnS) (a b : D) : Option O := match F [.imm a, .imm b] with
  | some (.own r, [_, _]) => some r
  | _ => none
def rv1 (F : FnS) (o : O) : Option (D × O) := match F [.bor o] with
  | some (.imm r, [.bor u]) => some (r, u)
  | _ => none
def rv2 (F : FnS) (o : O) (a : D) : Option (D × O) := match F [.bor o, .imm a] with
  | some (.imm r, [.bor u, _]) => some (r, u)
  | _ => none
def rv3 (F : FnS) (o : O) (a b : D) : Option (D × O) := match F [.bor o, .imm a, .imm b] with
  | some (.imm r, [.bor u, _, _]) => some (r, u)
  | _ => none
def fin (n : Nat) : Out → Option D
  | .rt (.imm r) ss => if n ≤ ss.length then some r else none
  | .nx ss => if n ≤ ss.length then some .none else none
  | _ => none
def finN (n : Nat) : Out → Option O
  | .rt (.own r) ss => if n ≤ ss.length then some r else none
  | _ => none
def finR (n : Nat) : Out → Option (D × O)
  | .rt (.imm r) (.bor u :: ss) => if n ≤ ss.length then some (r, u) else none
  | .nx (.bor u :: ss) => if n ≤ ss.length then some (.none, u) else none
  | _ => none
@[simp] theorem q_fin_rt (n r ss) : fin n (.rt (.imm r) ss) = if n ≤ ss.length then some r else none := rfl
@[simp] theorem q_fin_nx (n ss) : fin n (.nx ss) = if n ≤ ss.length then some .none else none := rfl
@[simp] theorem q_fin_no (n) : fin n .no = none := rfl
@[simp] theorem q_finN_rt (n r ss) : finN n (.rt (.own r) ss) = if n ≤ ss.length then some r else none := rfl
@[simp] theorem q_finN_no (n) : finN n .no = none := rfl
@[simp] theorem q_finR_rt (n r u ss) : finR n (.rt (.imm r) (.bor u :: ss)) = if n ≤ ss.length then some (r, u) else none := rfl
@[simp] theorem q_finR_nx (n u ss) : finR n (.nx (.bor u :: ss)) = if n ≤ ss.length then some (.none, u) else none := rfl
@[simp] theorem q_finR_no (n) : finR n .no = none := rfl
theorem q_ev1 (n b a) : ev1 (callF n b) a = fin 1 (b (.imm a :: List.replicate (n - 1) .un)) := by
  unfold ev1 callF
  simp only [List.cons_append, List.nil_append, List.length_cons, List.length_nil, Nat.zero_add, Nat.reduceAdd]
  generalize b _ = o
  cases o with
  | rt r ss => rcases ss with _ | ⟨x, ss⟩ <;> cases r <;> simp [fin]
  | nx ss => rcases ss with _ | ⟨x, ss⟩ <;> simp [fin]
  | _ => rfl
theorem q_ev2 (n b a c) : ev2 (callF n b) a c = fin 2 (b (.imm a :: .imm c :: List.replicate (n - 2) .un)) := by
  unfold ev2 callF
  simp only [List.cons_append, List.nil_append, List.length_cons, List.length_nil, Nat.zero_add, Nat.reduceAdd]
  generalize b _ = o
  cases o with
  | rt r ss => rcases ss with _ | ⟨x, _ | ⟨y, ss⟩⟩ <;> cases r <;> simp [fin]
  | nx ss => rcases ss with _ | ⟨x, _ | ⟨y, ss⟩⟩ <;> simp [fin]
  | _ => rfl
theorem q_ev3 (n b a c d) : ev3 (callF n b) a c d = fin 3 (b (.imm a :: .imm c :: .imm d :: List.replicate (n - 3) .un)) := by
  unfold ev3 callF
  simp only [List.cons_append, List.nil_append, List.length_cons, List.length_nil, Nat.zero_add, Nat.reduceAdd]
  generalize b _ = o
  cases o with
  | rt r ss => rcases ss with _ | ⟨x, _ | ⟨y, _ | ⟨z, ss⟩⟩⟩ <;> cases r <;> simp [fin]
  | nx ss => rcases ss with _ | ⟨x, _ | ⟨y, _ | ⟨z, ss⟩⟩⟩ <;> simp [fin]
  | _ => rfl
theorem q_nv1 (n b a) : nv1 (callF n b) a = finN 1 (b (.imm a :: List.replicate (n - 1) .un)) := by
  unfold nv1 callF
  simp only [List.cons_append, List.nil_append, List.length_cons, List.length_nil, Nat.zero_add, Nat.reduceAdd]
  generalize b _ = o
  cases o with
  | rt r ss => rcases ss with _ | ⟨x, ss⟩ <;> cases r <;> simp [finN]
  | nx ss => rcases ss with _ | ⟨x, ss⟩ <;> simp [finN]
  | _ => rfl
theorem q_nv2 (n b a c) : nv2 (callF n b) a c = finN 2 (b (.imm a :: .imm c :: List.replicate (n - 2) .un)) := by
  unfold nv2 callF
  simp only [List.cons_append, List.nil_append, List.length_cons, List.length_nil, Nat.zero_add, Nat.reduceAdd]
  generalize b _ = o
  cases o with
  | rt r ss => rcases ss with _ | ⟨x, _ | ⟨y, ss⟩⟩ <;> cases r <;> simp [finN]
  | nx ss => rcases ss with _ | ⟨x, _ | ⟨y, ss⟩⟩ <;> simp [finN]
  | _ => rfl
theorem q_rv1 (n b a) : rv1 (callF n b) a = finR 0 (b (.bor a :: List.replicate (n - 1) .un)) := by
  unfold rv1 callF
  simp only [List.cons_append, List.nil_append, List.length_cons, List.length_nil, Nat.zero_add, Nat.reduceAdd]
  generalize b _ = o
  cases o with
  | rt r ss => rcases ss with _ | ⟨_ | _ | _ | _, ss⟩ <;> cases r <;> simp [finR]
  | nx ss => rcases ss with _ | ⟨_ | _ | _ | _, ss⟩ <;> simp [finR]
  | _ => rfl
theorem q_rv2 (n b a c) : rv2 (callF n b) a c = finR 1 (b (.bor a :: .imm c :: List.replicate (n - 2) .un)) := by
  unfold rv2 callF
  simp only [List.cons_append, List.nil_append, List.length_cons, List.length_nil, Nat.zero_add, Nat.reduceAdd]
  generalize b _ = o
  cases o with
  | rt r ss => rcases ss with _ | ⟨_ | _ | _ | _, _ | ⟨y, ss⟩⟩ <;> cases r <;> simp [finR]
  | nx ss => rcases ss with _ | ⟨_ | _ | _ | _, _ | ⟨y, ss⟩⟩ <;> simp [finR]
  | _ => rfl
@[simp] theorem q_c1 (F : FnS) (a : FE) (ss : SS) : eCall F (aCons a aNil) ss = (a ss).bind fun x s1 => Res.of (ev1 F x) s1 := by
  unfold eCall aCons
  cases a ss with
  | no => rfl
  | ok x s1 =>
    simp only [q_bind_ok, aNil]
    unfold callAt ev1
    simp only [refs, List.nodup_nil, if_true, resolve, Option.map_some, Option.bind_some]
    cases e : F [.imm x] with
    | none => rfl
    | some p =>
      obtain ⟨r, _ | ⟨y, _ | ⟨z, t⟩⟩⟩ := p <;> cases r <;> rfl
@[simp] theorem q_c2 (F : FnS) (a b : FE) (ss : SS) : eCall F (aCons a (aCons b aNil)) ss = (a ss).bind fun x s1 => (b s1).bind fun y s2 => Res.of (ev2 F x y) s2 := by
  unfold eCall aCons
  cases a ss with
  | no => rfl
  | ok x s1 =>
    simp only [q_bind_ok, aNil]
    cases b s1 with
    | no => rfl
    | ok y s2 =>
      simp only [q_bind_ok]
      unfold callAt ev2
      simp only [refs, List.nodup_nil, if_true, resolve, Option.map_some, Option.bind_some]
      cases e : F [.imm x, .imm y] with
      | none => rfl
      | some p =>
        obtain ⟨r, _ | ⟨y, _ | ⟨z, _ | ⟨_, t⟩⟩⟩⟩ := p <;> cases r <;> rfl
@[simp] theorem q_c3 (F : FnS) (a b c : FE) (ss : SS) : eCall F (aCons a (aCons b (aCons c aNil))) ss = (a ss).bind fun x s1 => (b s1).bind fun y s2 => (c s2).bind fun z s3 => Res.of (ev3 F x y z) s3 := by
  unfold eCall aCons
  cases a ss with
  | no => rfl
  | ok x s1 =>
    simp only [q_bind_ok, aNil]
    cases b s1 with
    | no => rfl
    | ok y s2 =>
      simp only [q_bind_ok]
      cases c s2 with
      | no => rfl
      | ok z s3 =>
        simp only [q_bind_ok]
        unfold callAt ev3
        simp only [refs, List.nodup_nil, if_true, resolve, Option.map_some, Option.bind_some]
        cases e : F [.imm x, .imm y, .imm z] with
        | none => rfl
        | some p =>
          obtain ⟨r, _ | ⟨y, _ | ⟨z, _ | ⟨_, _ | ⟨_, t⟩⟩⟩⟩⟩ := p <;> cases r <;> rfl
@[simp] theorem q_n1 (F : FnS) (a : FE) (ss : SS) : nCall F (aCons a aNil) ss = (a ss).bind fun x s1 => Res.of (nv1 F x) s1 := by
  unfold nCall aCons
  cases a ss with
  | no => rfl
  | ok x s1 =>
    simp only [q_bind_ok, aNil]
    unfold callAt nv1
    simp only [refs, List.nodup_nil, if_true, resolve, Option.map_some, Option.bind_some]
    cases e : F [.imm x] with
    | none => rfl
    | some p =>
      obtain ⟨r, _ | ⟨y, _ | ⟨z, t⟩⟩⟩ := p <;> cases r <;> rfl
@[simp] theorem q_n2 (F : FnS) (a b : FE) (ss : SS) : nCall F (aCons a (aCons b aNil)) ss = (a ss).bind fun x s1 => (b s1).bind fun y s2 => Res.of (nv2 F x y) s2 := by
  unfold nCall aCons
  cases a ss with
  | no => rfl
  | ok x s1 =>
    simp only [q_bind_ok, aNil]
    cases b s1 with
    | no => rfl
    | ok y s2 =>
      simp only [q_bind_ok]
      unfold callAt nv2
      simp only [refs, List.nodup_nil, if_true, resolve, Option.map_some, Option.bind_some]
      cases e : F [.imm x, .imm y] with
      | none => rfl
      | some p =>
        obtain ⟨r, _ | ⟨y, _ | ⟨z, _ | ⟨_, t⟩⟩⟩⟩ := p <;> cases r <;> rfl
@[simp] theorem q_r1 (F : FnS) (i : Nat) (ss : SS) : eCall F (aRef i aNil) ss = match ss[i]? with
  | some (.own o) => (match rv1 F o with | some (d, u) => .ok d (ss.set i (.own u)) | none => .no)
  | some (.bor o) => (match rv1 F o with | some (d, u) => .ok d (ss.set i (.bor u)) | none => .no)
  | _ => .no := by
  unfold eCall aRef aNil
  cases h : ss[i]? with
  | none => rfl
  | some s =>
    cases s with
    | un => rfl
    | imm d => rfl
    | own o =>
      simp only [Option.bind_some, q_obj_o, q_bind_ok]
      unfold callAt rv1
      simp only [refs, List.nodup_cons, List.nodup_nil, List.not_mem_nil, not_false_eq_true, and_self, if_true, resolve, h, Option.bind_some, q_obj_o, Option.map_some]
      cases e : F [.bor o] with
      | none => rfl
      | some p =>
        obtain ⟨r, _ | ⟨_ | _ | _ | _, _ | ⟨z, t⟩⟩⟩ := p <;> cases r <;> simp [putB, h]
    | bor o =>
      simp only [Option.bind_some, q_obj_b, q_bind_ok]
      unfold callAt rv1
      simp only [refs, List.nodup_cons, List.nodup_nil, List.not_mem_nil, not_false_eq_true, and_self, if_true, resolve, h, Option.bind_some, q_obj_b, Option.map_some]
      cases e : F [.bor o] with
      | none => rfl
      | some p =>
        obtain ⟨r, _ | ⟨_ | _ | _ | _, _ | ⟨z, t⟩⟩⟩ := p <;> cases r <;> simp [putB, h]
theorem q_r2 (F : FnS) (i : Nat) (a : FE) (ss : SS) : eCall F (aRef i (aCons a aNil)) ss = match (ss[i]?).bind Sl.obj with
  | some _ => (a ss).bind fun x s1 => (match s1[i]? with
    | some (.own o) => (match rv2 F o x with | some (d, u) => .ok d (s1.set i (.own u)) | none => .no)
    | some (.bor o) => (match rv2 F o x with | some (d, u) => .ok d (s1.set i (.bor u)) | none => .no)
    | _ => .no)
  | none => .no := by
  unfold eCall aRef aCons aNil
  cases h0 : (ss[i]?).bind Sl.obj with
  | none => rfl
  | some o0 =>
    simp only
    cases a ss with
    | no => rfl
    | ok d s1 =>
      simp only [q_bind_ok]
      unfold callAt rv2
      simp only [refs, List.nodup_cons, List.nodup_nil, List.not_mem_nil, not_false_eq_true, and_self, if_true, resolve, Option.map_some]
      cases h : s1[i]? with
      | none => rfl
      | some s =>
        cases s with
        | un => rfl
        | imm d => rfl
        | own o =>
          simp only [Option.bind_some, q_obj_o]
          cases e : F [.bor o, .imm d] with
          | none => rfl
          | some p =>
            obtain ⟨r, _ | ⟨_ | _ | _ | _, _ | ⟨z, _ | ⟨_, t⟩⟩⟩⟩ := p <;> cases r <;> simp [putB, h]
        | bor o =>
          simp only [Option.bind_some, q_obj_b]
          cases e : F [.bor o, .imm d] with
          | none => rfl
          | some p =>
            obtain ⟨r, _ | ⟨_ | _ | _ | _, _ | ⟨z, _ | ⟨_, t⟩⟩⟩⟩ := p <;> cases r <;> simp [putB, h]
/-! ### loops, comprehensions -/
theorem loop_fold {α β : Type} {g : GF} {b : FS} (enc : α → D) (f : β → α → β) (R : β → SS → Prop) (C : α → Prop) (h : ∀ s ss x, R s ss → C x → ∃ s1 s2, g (enc x) ss = some s1 ∧ b s1 = .nx s2 ∧ R (f s x) s2) :
    ∀ (xs : List α) (s : β) (ss : SS), R s ss → (∀ x ∈ xs, C x) → ∃ s2, loopF g b (xs.map enc) ss = .nx s2 ∧ R (xs.foldl f s) s2
  | [], s, ss, r, _ => ⟨ss, rfl, r⟩
  | x :: xs, s, ss, r, c => by
    obtain ⟨s1, s2, h1, h2, h3⟩ := h s ss x r (c x List.mem_cons_self)
    obtain ⟨s3, h4, h5⟩ := loop_fold enc f R C h xs (f s x) s2 h3 fun y hy => c y (List.mem_cons_of_mem _ hy)
    refine ⟨s3, ?_, h5⟩
    rw [List.map_cons]
    unfold loopF
    rw [h1]
    simp only [h2]
    exact h4
theorem loop_rest {α β : Type} {g : GF} {b : FS} (enc : α → D) (f : β → α → β) (R : β → List α → SS → Prop) (h : ∀ s x r ss, R s (x :: r) ss → ∃ s1 s2, g (enc x) ss = some s1 ∧ b s1 = .nx s2 ∧ R (f s x) r s2) :
    ∀ (xs : List α) (s : β) (ss : SS), R s xs ss → ∃ s2, loopF g b (xs.map enc) ss = .nx s2 ∧ R (xs.foldl f s) [] s2
  | [], s, ss, r => ⟨ss, rfl, r⟩
  | x :: xs, s, ss, r => by
    obtain ⟨s1, s2, h1, h2, h3⟩ := h s x xs ss r
    obtain ⟨s3, h4, h5⟩ := loop_rest enc f R h xs (f s x) s2 h3
    refine ⟨s3, ?_, h5⟩
    rw [List.map_cons]
    unfold loopF
    rw [h1]
    simp only [h2]
    exact h4
@[simp] theorem q_ePkL (g i f) (ss : SS) : ePkL g i f ss = match objAt ss i with
  | some _ => (f ss).bind fun y s1 => match objAt s1 i with
    | some o => match g o.toD y with
      | some (.bool b) => .ok (.bool b) s1
      | _ => .no
    | none => .no
  | none => .no := rfl
theorem set_last {α : Type} (xs : List α) (x y : α) : (xs ++ [x]).set xs.length y = xs ++ [y] := by
  rw [List.set_append_right _ _ (Nat.le_refl _)]
  simp
theorem comp_pure {vs : List Nat} {g : GF} {t : FB} {e : FE} {ss : SS} (f : D → Option D) : ∀ ds : List D, (∀ d ∈ ds, turnF vs g t e d ss = some (f d, ss)) → compF vs g t e ds ss = some (ds.filterMap f, ss)
  | [], _ => rfl
  | d :: ds, h => by
    unfold compF
    rw [h d List.mem_cons_self]
    simp only
    rw [comp_pure f ds fun e he => h e (List.mem_cons_of_mem _ he)]
    simp only [List.filterMap_cons]
    cases f d <;> rfl
theorem comp_map {α : Type} {vs : List Nat} {g : GF} {t : FB} {e : FE} {ss : SS} (enc : α → D) (p : α → Bool) (f : α → D) : ∀ xs : List α, (∀ x ∈ xs, turnF vs g t e (enc x) ss = some (if p x = true then some (f x) else none, ss)) → compF vs g t e (xs.map enc) ss = some ((xs.filter p).map f, ss)
  | [], _ => rfl
  | d :: ds, h => by
    rw [List.map_cons]
    unfold compF
    rw [h d List.mem_cons_self]
    simp only
    rw [comp_map enc p f ds fun e he => h e (List.mem_cons_of_mem _ he)]
    simp only
    by_cases hp : p d = true
    · rw [if_pos hp, List.filter_cons_of_pos hp]; rfl
    · rw [if_neg hp, List.filter_cons_of_neg hp]; rfl
theorem comp2_map {α β : Type} {vs vs1 : List Nat} {g : GF} {t : FB} {src : FL} {g1 : GF} {t1 : FB} {e : FE} {ss : SS} (enc : α → D) (f : α → List D) : ∀ xs : List α, (∀ x ∈ xs, turn2F vs vs1 g t src g1 t1 e (enc x) ss = some (f x, ss)) → comp2F vs vs1 g t src g1 t1 e (xs.map enc) ss = some (xs.flatMap f, ss)
  | [], _ => rfl
  | d :: ds, h => by
    rw [List.map_cons]
    unfold comp2F
    rw [h d List.mem_cons_self]
    simp only
    rw [comp2_map (β := β) enc f ds fun e he => h e (List.mem_cons_of_mem _ he)]
    rfl
theorem comp_st {vs : List Nat} {g : GF} {t : FB} {e : FE} (N : Nat) (R : Nat → SS → Prop) (P : D → Prop) : ∀ (ds : List D) (j : Nat) (ss : SS), j + ds.length = N → R j ss → (∀ j ss d, j < N → d ∈ ds → R j ss → ∃ x s1, turnF vs g t e d ss = some (some x, s1) ∧ P x ∧ R (j + 1) s1) →
    ∃ xs s2, compF vs g t e ds ss = some (xs, s2) ∧ xs.length = ds.length ∧ (∀ x ∈ xs, P x) ∧ R N s2
  | [], j, ss, hN, r, _ => ⟨[], ss, rfl, rfl, fun x hx => (nomatch hx), by rw [← hN]; exact r⟩
  | d :: ds, j, ss, hN, r, h => by
    rw [List.length_cons] at hN
    obtain ⟨x, s1, h1, h2, h3⟩ := h j ss d (by omega) List.mem_cons_self r
    obtain ⟨xs, s2, k1, k2, k3, k4⟩ := comp_st N R P ds (j + 1) s1 (by omega) h3 fun j ss d hj hd => h j ss d hj (List.mem_cons_of_mem _ hd)
    refine ⟨x :: xs, s2, ?_, by rw [List.length_cons, List.length_cons, k2], fun y hy => ?_, k4⟩
    · unfold compF
      rw [h1]
      simp only [k1]
      rfl
    · rcases List.mem_cons.mp hy with rfl | hy
      · exact h2
      · exact k3 y hy
theorem at_mem {α : Type} {xs : List α} {k : Int} (h0 : 0 ≤ k) (h1 : k < xs.length) : ∃ x ∈ xs, atI xs k = some x := by
  obtain ⟨n, rfl⟩ := Int.eq_ofNat_of_zero_le h0
  have hn : n < xs.length := by omega
  exact ⟨xs[n], List.getElem_mem hn, at_get (List.getElem?_eq_getElem hn)⟩
@[simp] theorem q_nLc (vs src g t e) (ss : SS) : nLc vs src g t e ss = (src ss).bind fun ds s1 => match compF vs g t e ds (wipeS s1 vs) with
    | some (xs, s2) => if xs.length ≤ sizeLine then .ok (.lst xs) (backS vs s1 s2) else .no
    | none => .no := rfl
@[simp] theorem q_nLc2 (vs vs1 src g t src1 g1 t1 e) (ss : SS) : nLc2 vs vs1 src g t src1 g1 t1 e ss = (src ss).bind fun ds s1 => match comp2F vs vs1 g t src1 g1 t1 e ds (wipeS s1 vs) with
    | some (xs, s2) => if xs.length ≤ sizeLine then .ok (.lst xs) (backS vs s1 s2) else .no
    | none => .no := rfl
end Dm

set_option maxHeartbeats 1000000
/-! Dk: the deck of a law. -/
namespace Dk
open PySem L2 Dt Dm
def B_deck : FS := (sSeq (sIf (bOf (eOp dGe (eV 0) (eOp dPow (eC (.int 10)) (eC (.int 18))))) (sRetN (nLst (lCons (eOp dSub (eV 0) (eOp dPow (eC (.int 10)) (eC (.int 18)))) (lCons (eOp dMod (eV 0) (eC (.int 2147483579))) (lCons (eV 1) lNil))))) sNil)
    (sRetN (nLst (lCons (eC (.int 0)) (lCons (eOp dMod (eV 0) (eC (.int 2147483579))) (lCons (eV 1) lNil))))))
def F_deck : FnS := callF 2 B_deck
def B_pick : FS := (sSeq (sIf (bOf (eOp dGt (eOix 0 (eC (.int 0))) (eC (.int 1)))) (sSeq (sAsg (eOp dMod (eOix 0 (eC (.int 0))) (eV 1)) (gN 2))
    (sSeq (sSetL 0 (eC (.int 0)) (eOp dDiv (eOix 0 (eC (.int 0))) (eV 1)))
    (sRet (eV 2)))) sNil)
    (sSeq (sSetL 0 (eC (.int 2)) (eOp dAdd (eOix 0 (eC (.int 2))) (eC (.int 1))))
    (sSeq (sAsg (eOp dMod (eOp dPow (eOp dAdd (eOix 0 (eC (.int 1))) (eOp dMul (eC (.int 15485867)) (eOix 0 (eC (.int 2))))) (eC (.int 5))) (eC (.int 2147483647))) (gN 3))
    (sSeq (sAsg (eOp dDiv (eOp dMod (eOp dPow (eOp dAdd (eV 3) (eOp dMul (eC (.int 7919)) (eOix 0 (eC (.int 2))))) (eC (.int 3))) (eC (.int 2147483629))) (eC (.int 32))) (gN 2))
    (sSeq (sIf (bOf (eOp dGt (eV 1) (eC (.int 1000000)))) (sRet (eOp dMod (eOp dAdd (eOp dMul (eV 2) (eC (.int 2147483563))) (eV 3)) (eV 1))) sNil)
    (sRet (eOp dMod (eV 2) (eV 1))))))))
def F_pick : FnS := callF 4 B_pick
structure Deck (n : Nat) (o : O) : Prop where
  ex : ∃ a b c : Int, o = .lst [.int a, .int b, .int c] ∧ 0 ≤ b ∧ b < 2147483579 ∧ 0 ≤ c ∧ c ≤ n
theorem Deck.mono {n m : Nat} {o : O} (h : Deck n o) (k : n ≤ m) : Deck m o := by
  obtain ⟨a, b, c, h1, h2, h3, h4, h5⟩ := h
  exact ⟨a, b, c, h1, h2, h3, h4, by omega⟩
theorem deck_spec (x : Int) (t : Nat) : ∃ o, nv2 F_deck (.int x) (.int t) = some o ∧ Deck t o := by
  unfold F_deck
  rw [q_nv2]
  unfold B_deck
  have b1 : 0 ≤ x % 2147483579 := Int.emod_nonneg _ (by decide)
  have b2 : x % 2147483579 < 2147483579 := Int.emod_lt_of_pos _ (by decide)
  by_cases h : x ≥ 1000000000000000000
  · refine ⟨_, ?_, ⟨x - 10 ^ 18, x % 2147483579, t, rfl, b1, b2, by omega, by omega⟩⟩
    simp [h]
  · refine ⟨_, ?_, ⟨0, x % 2147483579, t, rfl, b1, b2, by omega, by omega⟩⟩
    simp [h]
theorem pick_spec {n : Nat} {o : O} {m : Int} (h : Deck n o) (hn : n ≤ 100000) (h0 : 0 < m) (h1 : m < 2 ^ 60) : ∃ (r : Int) (u : O), rv2 F_pick o (.int m) = some (.int r, u) ∧ 0 ≤ r ∧ r < m ∧ Deck (n + 1) u := by
  obtain ⟨a, b, c, rfl, hb1, hb2, hc1, hc2⟩ := h
  unfold F_pick
  rw [q_rv2]
  unfold B_pick
  have e3 : ∀ x : Int, 0 ≤ x % m := fun x => Int.emod_nonneg _ (by omega)
  have e4 : ∀ x : Int, x % m < m := fun x => Int.emod_lt_of_pos _ h0
  by_cases ha : 1 < a
  · refine ⟨a % m, _, ?_, e3 _, e4 _, ⟨a / m, b, c, rfl, hb1, hb2, hc1, by omega⟩⟩
    have hd : dDiv (.int a) (.int m) = some (.int (a / m)) := div_int h0 (by omega)
    have hx : ixN 3 0 = some 0 := by decide
    simp [-q_div, ha, hd, h0, hx]
  · have p1 : (b + 15485867 * (c + 1)).natAbs < 2 ^ 64 := by omega
    generalize hN : (b + 15485867 * (c + 1)) ^ 5 % 2147483647 = N
    have n1 : 0 ≤ N := by rw [← hN]; exact Int.emod_nonneg _ (by decide)
    have n2 : N < 2147483647 := by rw [← hN]; exact Int.emod_lt_of_pos _ (by decide)
    have p2 : (N + 7919 * (c + 1)).natAbs < 2 ^ 64 := by omega
    generalize hM : (N + 7919 * (c + 1)) ^ 3 % 2147483629 / 32 = M
    have m1 : 0 ≤ M := by rw [← hM]; exact Int.ediv_nonneg (Int.emod_nonneg _ (by decide)) (by decide)
    have m2 : M < 2147483629 := by
      have : (N + 7919 * (c + 1)) ^ 3 % 2147483629 < 2147483629 := Int.emod_lt_of_pos _ (by decide)
      rw [← hM]; omega
    have l1 : dMul (.int 15485867) (.int (c + 1)) = some (.int (15485867 * (c + 1))) := mul_int (by decide) (by omega)
    have l2 : dMul (.int 7919) (.int (c + 1)) = some (.int (7919 * (c + 1))) := mul_int (by decide) (by omega)
    have l3 : dMul (.int M) (.int 2147483563) = some (.int (M * 2147483563)) := mul_int (by omega) (by decide)
    have hx : ixN 3 2 = some 2 := by decide
    have d32 : Nat.log2 32 < 9000 := q_log9 (by decide)
    by_cases hm : 1000000 < m
    · refine ⟨(M * 2147483563 + N) % m, _, ?_, e3 _, e4 _, ⟨a, b, c + 1, rfl, hb1, hb2, by omega, by omega⟩⟩
      simp [-q_mul, ha, h0, hx, l1, l2, l3, p1, hN, p2, hM, hm, d32]
    · refine ⟨M % m, _, ?_, e3 _, e4 _, ⟨a, b, c + 1, rfl, hb1, hb2, by omega, by omega⟩⟩
      simp [-q_mul, ha, h0, hx, l1, l2, l3, p1, hN, p2, hM, hm, d32]
end Dk

/-! Dq: data with a Lean type. -/
namespace Dm
open PySem L2 Dt
open PySem.W (Datum DatumOrd Tup T3 T4)
section
variable {α : Type} [DecidableEq α]
theorem eq_dat [Datum α] (x y : α) (h : Datum.depth α ≤ 60 := by decide) : dEq (Datum.toD x) (Datum.toD y) = some (.bool (decide (x = y))) := by
  have e := Datum.eqv x y
  have hc : cmpOk (Datum.toD x) (Datum.toD y) = true := by
    unfold cmpOk
    rw [Datum.plain, Datum.plain, Bool.true_and, Bool.true_and, decide_eq_true_eq]
    exact Nat.le_trans (Nat.min_le_left _ _) (Nat.le_trans (Datum.depth_le x) h)
  unfold dEq
  split
  · rename_i h1 h2
    rw [h1, h2] at e
    rw [← e]
    simp [PyData.eqv]
  · rename_i h1 h2
    rw [h1, h2] at e
    rw [← e]
    simp [PyData.eqv]
  · rw [if_pos hc, e]
theorem ne_dat [Datum α] (x y : α) (h : Datum.depth α ≤ 60 := by decide) : dNe (Datum.toD x) (Datum.toD y) = some (.bool (!decide (x = y))) := by
  have e := Datum.eqv x y
  have hc : cmpOk (Datum.toD x) (Datum.toD y) = true := by
    unfold cmpOk
    rw [Datum.plain, Datum.plain, Bool.true_and, Bool.true_and, decide_eq_true_eq]
    exact Nat.le_trans (Nat.min_le_left _ _) (Nat.le_trans (Datum.depth_le x) h)
  unfold dNe
  split
  · rename_i h1 h2
    rw [h1, h2] at e
    rw [← e]
    simp [PyData.eqv]
  · rename_i h1 h2
    rw [h1, h2] at e
    rw [← e]
    simp [PyData.eqv]
  · rw [if_pos hc, e]
/-- a list in order -/
def srt [DatumOrd α] (xs : List α) : List α := xs.mergeSort fun a b => !DatumOrd.lt b a
theorem srt_dat [DatumOrd α] (xs : List α) (hk : sortKind (xs.map Datum.toD) = true) (h : Datum.depth α ≤ 60 := by decide) : gSorted [.list (xs.map Datum.toD)] = some (.lst ((srt xs).map Datum.toD)) := by
  have h1 : sortOk (xs.map (Datum.toD (α := α))) = true := by
    unfold sortOk
    rw [List.all_eq_true]
    intro d hd
    rw [List.all_eq_true]
    intro e he
    obtain ⟨a, _, rfl⟩ := List.mem_map.mp hd
    obtain ⟨b, _, rfl⟩ := List.mem_map.mp he
    exact DatumOrd.alike a b
  unfold gSorted
  simp only
  rw [if_pos ⟨h1, hk, PySem.W.plainAll_map xs, Nat.le_trans (PySem.W.depthAll_map xs) h⟩]
  congr 2
  exact (List.map_mergeSort (f := Datum.toD) fun a _ b _ => by
    show (!DatumOrd.lt b a) = (!PySem.W.dataLt (Datum.toD b) (Datum.toD a))
    rw [DatumOrd.lt_eq]).symm
theorem srt_perm [DatumOrd α] (xs : List α) : (srt xs).Perm xs := List.mergeSort_perm _ _
theorem srt_pair [DatumOrd α] (xs : List α) : (srt xs).Pairwise fun a b => DatumOrd.lt b a = false := by
  have T := PySem.W.sortLe_total (PyProof.Rows.listOrd PyProof.Rows.itemOrd) false fun a : α => PySem.W.keyToks (Datum.toD a)
  have e : ∀ a b : α, (!DatumOrd.lt b a) = PySem.W.sortLe (PyProof.Rows.listOrd PyProof.Rows.itemOrd) false (fun a : α => PySem.W.keyToks (Datum.toD a)) a b := fun a b => by
    show _ = (!PySem.W.dataLt (Datum.toD b) (Datum.toD a))
    rw [DatumOrd.lt_eq]
  have := List.pairwise_mergeSort (le := fun a b : α => !DatumOrd.lt b a) (fun a b c h1 h2 => by
    rw [e] at *
    exact T.trans a b c h1 h2) (fun a b => by
    rw [e, e, Bool.or_eq_true]
    exact T.total a b) xs
  exact this.imp fun h => by simpa using h
end
theorem pair_kind {α β : Type} [DecidableEq α] [Datum α] [DecidableEq β] [Datum β] (xs : List (α × β)) : sortKind (xs.map Datum.toD) = true := by
  unfold sortKind
  rw [Bool.or_eq_true]
  refine .inl (List.all_eq_true.mpr fun d hd => ?_)
  obtain ⟨a, _, rfl⟩ := List.mem_map.mp hd
  rfl
theorem int_kind (xs : List Int) : sortKind (xs.map Datum.toD) = true := by
  unfold sortKind
  rw [Bool.or_eq_true]
  refine .inr (List.all_eq_true.mpr fun d hd => ?_)
  obtain ⟨a, _, rfl⟩ := List.mem_map.mp hd
  rfl
end Dm

/-! Dn: comprehensions and loops, ready for rw. -/
namespace Dm
open PySem L2 Dt
theorem nLc_map {α : Type} {vs : List Nat} {src : FL} {g : GF} {t : FB} {e : FE} {ss ss1 : SS} (enc : α → D) (p : α → Bool) (f : α → D) (xs : List α) (hs : src ss = .ok (xs.map enc) ss1)
    (h : ∀ x ∈ xs, turnF vs g t e (enc x) (wipeS ss1 vs) = some (if p x = true then some (f x) else none, wipeS ss1 vs)) (hl : (xs.filter p).length ≤ sizeLine) :
    nLc vs src g t e ss = .ok (.lst ((xs.filter p).map f)) (backS vs ss1 (wipeS ss1 vs)) := by
  rw [q_nLc, hs, q_bind_ok, comp_map enc p f xs h]
  simp only [List.length_map, if_pos hl]
theorem nLc_all {α : Type} {vs : List Nat} {src : FL} {g : GF} {t : FB} {e : FE} {ss ss1 : SS} (enc : α → D) (f : α → D) (xs : List α) (hs : src ss = .ok (xs.map enc) ss1)
    (h : ∀ x ∈ xs, turnF vs g t e (enc x) (wipeS ss1 vs) = some (some (f x), wipeS ss1 vs)) (hl : xs.length ≤ sizeLine) :
    nLc vs src g t e ss = .ok (.lst (xs.map f)) (backS vs ss1 (wipeS ss1 vs)) := by
  have hf : xs.filter (fun _ => true) = xs := List.filter_eq_self.mpr fun _ _ => rfl
  have := nLc_map (vs := vs) (src := src) (g := g) (t := t) (e := e) enc (fun _ => true) f xs hs (fun x hx => by rw [h x hx]; rfl) (by rw [hf]; exact hl)
  rw [hf] at this
  exact this
theorem nLc2_map {α : Type} {vs vs1 : List Nat} {src : FL} {g : GF} {t : FB} {src1 : FL} {g1 : GF} {t1 : FB} {e : FE} {ss ss1 : SS} (enc : α → D) (f : α → List D) (xs : List α) (hs : src ss = .ok (xs.map enc) ss1)
    (h : ∀ x ∈ xs, turn2F vs vs1 g t src1 g1 t1 e (enc x) (wipeS ss1 vs) = some (f x, wipeS ss1 vs)) (hl : (xs.flatMap f).length ≤ sizeLine) :
    nLc2 vs vs1 src g t src1 g1 t1 e ss = .ok (.lst (xs.flatMap f)) (backS vs ss1 (wipeS ss1 vs)) := by
  rw [q_nLc2, hs, q_bind_ok, comp2_map (β := α) enc f xs h]
  simp only [if_pos hl]
/-! a loop whose turns may leave -/
def foldE {α β ε : Type} (f : β → α → β ⊕ ε) : β → List α → β ⊕ ε
  | s, [] => .inl s
  | s, x :: r => match f s x with
    | .inl t => foldE f t r
    | .inr e => .inr e
theorem loop_exit {α β ε : Type} {g : GF} {b : FS} (enc : α → D) (f : β → α → β ⊕ ε) (res : ε → Sl) (R : β → List α → SS → Prop) (R' : ε → SS → Prop) (h : ∀ s x rest ss, R s (x :: rest) ss → ∃ s1, g (enc x) ss = some s1 ∧ match f s x with
    | .inl t => ∃ s2, (b s1 = .nx s2 ∨ b s1 = .ct s2) ∧ R t rest s2
    | .inr e => ∃ s2, b s1 = .rt (res e) s2 ∧ R' e s2) :
    ∀ (xs : List α) (s : β) (ss : SS), R s xs ss → match foldE f s xs with
    | .inl t => ∃ s2, loopF g b (xs.map enc) ss = .nx s2 ∧ R t [] s2
    | .inr e => ∃ s2, loopF g b (xs.map enc) ss = .rt (res e) s2 ∧ R' e s2
  | [], s, ss, hr => ⟨ss, rfl, hr⟩
  | x :: xs, s, ss, hr => by
    obtain ⟨s1, h1, h2⟩ := h s x xs ss hr
    unfold foldE
    rw [List.map_cons]
    unfold loopF
    rw [h1]
    cases e : f s x with
    | inl t =>
      rw [e] at h2
      obtain ⟨s2, h3, h4⟩ := h2
      have h5 := loop_exit enc f res R R' h xs t s2 h4
      rcases h3 with h3 | h3 <;> simp only [h3] <;> exact h5
    | inr t =>
      rw [e] at h2
      obtain ⟨s2, h3, h4⟩ := h2
      simp only [h3]
      exact ⟨s2, rfl, h4⟩
/-- a loop that never leaves; what holds is told along -/
theorem loop_inv {α : Type} {g : GF} {b : FS} (enc : α → D) (R : List α → SS → Prop) (h : ∀ x r ss, R (x :: r) ss → ∃ s1 s2, g (enc x) ss = some s1 ∧ (b s1 = .nx s2 ∨ b s1 = .ct s2) ∧ R r s2) :
    ∀ (xs : List α) (ss : SS), R xs ss → ∃ s2, loopF g b (xs.map enc) ss = .nx s2 ∧ R [] s2
  | [], ss, r => ⟨ss, rfl, r⟩
  | x :: xs, ss, r => by
    obtain ⟨s1, s2, h1, h2, h3⟩ := h x xs ss r
    obtain ⟨s3, h4, h5⟩ := loop_inv enc R h xs s2 h3
    refine ⟨s3, ?_, h5⟩
    rw [List.map_cons]
    unfold loopF
    rw [h1]
    rcases h2 with h2 | h2 <;> simp only [h2] <;> exact h4
theorem mapM_asB {α : Type} (f : α → D) (g : α → Bool) (h : ∀ x, f x = .bool (g x)) : ∀ xs : List α, (xs.map f).mapM asB = some (xs.map g)
  | [] => rfl
  | x :: xs => by rw [List.map_cons, List.mapM_cons, mapM_asB f g h xs, h]; rfl
theorem mapM_asI {α : Type} (f : α → D) (g : α → Int) (h : ∀ x, f x = .int (g x)) : ∀ xs : List α, (xs.map f).mapM asI = some (xs.map g)
  | [] => rfl
  | x :: xs => by rw [List.map_cons, List.mapM_cons, mapM_asI f g h xs, h]; rfl
open PySem.W (Datum DatumOrd Tup T3 T4)
section
variable {α : Type} [DecidableEq α] [DatumOrd α]
theorem ord_ok (x y : α) (h : Datum.depth α ≤ 60 := by decide) : ordOk (Datum.toD x) (Datum.toD y) = true := by
  unfold ordOk
  have hn := DatumOrd.notNone x
  simp only [Datum.plain, DatumOrd.alike, Bool.and_eq_true, decide_eq_true_eq, and_self, true_and]
  refine ⟨Nat.le_trans (Nat.min_le_left _ _) (Nat.le_trans (Datum.depth_le x) h), ?_⟩
  trivial
theorem lt_dat (x y : α) (h : Datum.depth α ≤ 60 := by decide) : dLt (Datum.toD x) (Datum.toD y) = some (.bool (DatumOrd.lt x y)) := by
  have e := DatumOrd.lt_eq x y
  unfold dLt
  split
  · rename_i h1 h2; rw [h1, h2] at e; rw [← e, PySem.W.dataLt_int]
  · rename_i h1 h2; rw [h1, h2] at e; rw [← e, PySem.W.dataLt_str]
  · rw [if_pos (ord_ok x y h), e]
theorem gt_dat (x y : α) (h : Datum.depth α ≤ 60 := by decide) : dGt (Datum.toD x) (Datum.toD y) = some (.bool (DatumOrd.lt y x)) := by
  have e := DatumOrd.lt_eq y x
  unfold dGt
  split
  · rename_i h1 h2; rw [h1, h2] at e; rw [← e, PySem.W.dataLt_int]
  · rename_i h1 h2; rw [h1, h2] at e; rw [← e, PySem.W.dataLt_str]
  · rw [if_pos (ord_ok x y h), e]
theorem le_dat (x y : α) (h : Datum.depth α ≤ 60 := by decide) : dLe (Datum.toD x) (Datum.toD y) = some (.bool (!DatumOrd.lt y x)) := by
  have e := DatumOrd.lt_eq y x
  unfold dLe
  split
  · rename_i i j h1 h2
    rw [h1, h2] at e
    rw [← e, PySem.W.dataLt_int]
    congr 2
    by_cases hij : i ≤ j
    · rw [decide_eq_true hij, decide_eq_false (by omega)]; rfl
    · rw [decide_eq_false hij, decide_eq_true (by omega)]; rfl
  · rename_i h1 h2; rw [h1, h2] at e; rw [← e, PySem.W.dataLt_str]
  · rw [if_pos (ord_ok x y h), e]
theorem plainAll_dat (xs : List α) : PyData.plainAll (xs.map Datum.toD) = true := PySem.W.plainAll_map xs
end
section
variable {α : Type} [DecidableEq α] [Datum α]
theorem any_dat (x : α) : ∀ ys : List α, ((ys.map Datum.toD).any fun y => PyData.eqv y (Datum.toD x)) = decide (x ∈ ys)
  | [] => by simp
  | y :: ys => by
    rw [List.map_cons, List.any_cons, any_dat x ys, Datum.eqv, Bool.eq_iff_iff]
    simp only [Bool.or_eq_true, decide_eq_true_eq, List.mem_cons]
    exact or_congr_left eq_comm
theorem in_dat_l (x : α) (ys : List α) (h : Datum.depth α ≤ 60 := by decide) : dIn (Datum.toD x) (.list (ys.map Datum.toD)) = some (.bool (decide (x ∈ ys))) := by
  unfold dIn inB
  simp only
  rw [if_pos ⟨Datum.plain x, PySem.W.plainAll_map ys, Nat.le_trans (Nat.min_le_right _ _) (Nat.le_trans (Datum.depth_le x) h)⟩, any_dat]
  rfl
theorem in_dat_t (x : α) (ys : List α) (h : Datum.depth α ≤ 60 := by decide) : dIn (Datum.toD x) (.tuple (ys.map Datum.toD)) = some (.bool (decide (x ∈ ys))) := by
  unfold dIn inB
  simp only
  rw [if_pos ⟨Datum.plain x, PySem.W.plainAll_map ys, Nat.le_trans (Nat.min_le_right _ _) (Nat.le_trans (Datum.depth_le x) h)⟩, any_dat]
  rfl
theorem nin_dat_l (x : α) (ys : List α) (h : Datum.depth α ≤ 60 := by decide) : dNin (Datum.toD x) (.list (ys.map Datum.toD)) = some (.bool (!decide (x ∈ ys))) := by
  have := in_dat_l x ys h
  unfold dIn at this
  unfold dNin
  cases e : inB (Datum.toD x) (.list (ys.map Datum.toD)) with
  | none => rw [e] at this; cases this
  | some b => rw [e] at this; cases this; rfl
theorem nin_dat_t (x : α) (ys : List α) (h : Datum.depth α ≤ 60 := by decide) : dNin (Datum.toD x) (.tuple (ys.map Datum.toD)) = some (.bool (!decide (x ∈ ys))) := by
  have := in_dat_t x ys h
  unfold dIn at this
  unfold dNin
  cases e : inB (Datum.toD x) (.tuple (ys.map Datum.toD)) with
  | none => rw [e] at this; cases this
  | some b => rw [e] at this; cases this; rfl
end
end Dm
namespace Dm
open PySem L2 Dt
/-- comprehensions whose source leaves the slots as they are -/
theorem nLc_pure {α : Type} {vs : List Nat} {src : FL} {g : GF} {t : FB} {e : FE} {ss : SS} (enc : α → D) (f : α → D) (xs : List α) (hs : src ss = .ok (xs.map enc) ss)
    (h : ∀ x ∈ xs, turnF vs g t e (enc x) (wipeS ss vs) = some (some (f x), wipeS ss vs)) (hl : xs.length ≤ sizeLine) :
    nLc vs src g t e ss = .ok (.lst (xs.map f)) (backS vs ss (wipeS ss vs)) := nLc_all enc f xs hs h hl
theorem nLc_filt {α : Type} {vs : List Nat} {src : FL} {g : GF} {t : FB} {e : FE} {ss : SS} (enc : α → D) (p : α → Bool) (f : α → D) (xs : List α) (hs : src ss = .ok (xs.map enc) ss)
    (h : ∀ x ∈ xs, turnF vs g t e (enc x) (wipeS ss vs) = some (if p x = true then some (f x) else none, wipeS ss vs)) (hl : xs.length ≤ sizeLine) :
    nLc vs src g t e ss = .ok (.lst ((xs.filter p).map f)) (backS vs ss (wipeS ss vs)) := nLc_map enc p f xs hs h (Nat.le_trans (List.length_filter_le _ _) hl)
/-- for cell in [0] + script[:k]: ..; return True -/
theorem law_end {N : Nat} {k : Int} {B : FS} {bd : FS} {ns : List Int} (hB : B = sSeq (sFor (lSeq (eOp dAdd (eFz (nLst (lCons (eC (.int 0)) lNil))) (eSl (eV 0) oNone (oSome (eC (.int k)))))) (gN 1) bd) (sRet (eC (.bool true))))
    (R : SS → Prop) (h0 : R (.imm (.list (ns.map .int)) :: List.replicate (N - 1) .un)) (h : ∀ (x : Int) (ss : SS), R ss → ∃ s1 s2, gN 1 (.int x) ss = some s1 ∧ (bd s1 = .nx s2 ∨ bd s1 = .ct s2) ∧ R s2) (hn : ns.length ≤ 63) :
    ∃ args, callF N B [.imm (.list (ns.map .int))] = some (.imm (.bool true), args) := by
  obtain ⟨cells, hcut⟩ : ∃ cells : List Int, (.int 0 :: cutD (ns.map .int) none (some k) : List D) = cells.map .int := by
    unfold cutD
    rw [← List.map_drop, ← List.map_take]
    exact ⟨0 :: _, rfl⟩
  have hl : (cutD (ns.map PyData.int) none (some k)).length ≤ 63 := by
    unfold cutD
    rw [List.length_take, List.length_drop, List.length_map]
    omega
  obtain ⟨s2, h1, h2⟩ := loop_inv (g := gN 1) (b := bd) (fun n : Int => (.int n : D)) (fun _ ss => R ss) (fun x _ ss hR => h x ss hR) cells _ h0
  have hs : dSl (.list (ns.map .int)) none (some k) = some (.list (cutD (ns.map .int) none (some k))) := rfl
  have hBB : B (.imm (.list (ns.map .int)) :: List.replicate (N - 1) .un) = .rt (.imm (.bool true)) s2 := by
    rw [hB]
    have h1' : loopF (gN 1) bd (.int 0 :: cutD (ns.map .int) none (some k)) (.imm (.list (ns.map .int)) :: List.replicate (N - 1) .un) = .nx s2 := by rw [hcut]; exact h1
    have hle : 1 + (cutD (ns.map PyData.int) none (some k)).length ≤ 16777216 := by omega
    have hle3 : (cutD (ns.map PyData.int) none (some k)).length + 1 ≤ 16777216 := by omega
    simp [oSome, hs, hle, hle3, h1']
  refine ⟨s2.take 1, ?_⟩
  show (match B (.imm (.list (ns.map .int)) :: List.replicate (N - 1) .un) with | .rt r ss => _ | .nx ss => _ | _ => _) = _
  rw [hBB]
  rfl
end Dm
namespace Dm
open PySem L2 Dt
theorem loop_invE {α : Type} {g : GF} {b : FS} {enc : α → D} {xs : List α} {ss : SS} {o : Out} (hL : loopF g b (xs.map enc) ss = o) (R : List α → SS → Prop) (h0 : R xs ss)
    (h : ∀ x r ss, R (x :: r) ss → ∃ s1 s2, g (enc x) ss = some s1 ∧ (b s1 = .nx s2 ∨ b s1 = .ct s2) ∧ R r s2) : ∃ s2, o = .nx s2 ∧ R [] s2 := by
  rw [← hL]
  exact loop_inv enc R h xs ss h0
theorem loop_restE {α β : Type} {g : GF} {b : FS} {enc : α → D} {xs : List α} {ss : SS} {o : Out} (hL : loopF g b (xs.map enc) ss = o) (f : β → α → β) (R : β → List α → SS → Prop) (s : β) (h0 : R s xs ss)
    (h : ∀ s x r ss, R s (x :: r) ss → ∃ s1 s2, g (enc x) ss = some s1 ∧ b s1 = .nx s2 ∧ R (f s x) r s2) : ∃ s2, o = .nx s2 ∧ R (xs.foldl f s) [] s2 := by
  rw [← hL]
  exact loop_rest enc f R h xs s ss h0
theorem loop_exitE {α β ε : Type} {g : GF} {b : FS} {enc : α → D} {xs : List α} {ss : SS} {o : Out} (hL : loopF g b (xs.map enc) ss = o) (f : β → α → β ⊕ ε) (res : ε → Sl) (R : β → List α → SS → Prop) (R' : ε → SS → Prop) (s : β) (h0 : R s xs ss)
    (h : ∀ s x rest ss, R s (x :: rest) ss → ∃ s1, g (enc x) ss = some s1 ∧ match f s x with
    | .inl t => ∃ s2, (b s1 = .nx s2 ∨ b s1 = .ct s2) ∧ R t rest s2
    | .inr e => ∃ s2, b s1 = .rt (res e) s2 ∧ R' e s2) : match foldE f s xs with
    | .inl t => ∃ s2, o = .nx s2 ∧ R t [] s2
    | .inr e => ∃ s2, o = .rt (res e) s2 ∧ R' e s2 := by
  rw [← hL]
  exact loop_exit enc f res R R' h xs s ss h0
end Dm
namespace Dm
open PySem L2 Dt
@[simp] theorem lend_nil : lend [] = [] := rfl
@[simp] theorem lend_cons (a : Sl) (r : SS) : lend (a :: r) = lendS a :: lend r := rfl
@[simp] theorem unlend_nil : unlend [] [] = [] := rfl
@[simp] theorem unlend_cons (a b : Sl) (r s : SS) : unlend (a :: r) (b :: s) = unlendS a b :: unlend r s := rfl
@[simp] theorem lendS_imm (d : D) : lendS (.imm d) = .imm d := rfl
@[simp] theorem lendS_un : lendS .un = .un := rfl
@[simp] theorem lendS_own (o : O) : lendS (.own o) = .bor o := rfl
@[simp] theorem lendS_bor (o : O) : lendS (.bor o) = .bor o := rfl
@[simp] theorem unlendS_self (a : Sl) : unlendS a (lendS a) = a := by cases a <;> rfl
@[simp] theorem unlendS_imm (a : Sl) (d : D) : unlendS a (.imm d) = .imm d := by cases a <;> rfl
@[simp] theorem unlendS_un (a : Sl) : unlendS a .un = .un := by cases a <;> rfl
@[simp] theorem unlendS_ob (o u : O) : unlendS (.own o) (.bor u) = .own u := rfl
@[simp] theorem unlendS_bb (o u : O) : unlendS (.bor o) (.bor u) = .bor u := rfl
@[simp] theorem wipeS_nil (ss : SS) : wipeS ss [] = ss := rfl
@[simp] theorem wipeS_cons (ss : SS) (v : Nat) (vs : List Nat) : wipeS ss (v :: vs) = (wipeS ss vs).set v .un := rfl
@[simp] theorem backS_def (vs : List Nat) (ss s2 : SS) : backS vs ss s2 = backF vs 0 ss s2 := rfl
@[simp] theorem backF_cons (vs : List Nat) (i : Nat) (s t : Sl) (ss ts : SS) : backF vs i (s :: ss) (t :: ts) = (if i ∈ vs then keepS s else t) :: backF vs (i + 1) ss ts := rfl
@[simp] theorem backF_nil (vs : List Nat) (i : Nat) : backF vs i [] [] = [] := rfl
@[simp] theorem keepS_imm (d : D) : keepS (.imm d) = .imm d := rfl
@[simp] theorem keepS_un : keepS .un = .un := rfl
@[simp] theorem keepS_own (o : O) : keepS (.own o) = .un := rfl
@[simp] theorem keepS_bor (o : O) : keepS (.bor o) = .un := rfl
@[simp] theorem compF_nil (vs g t e) (ss : SS) : compF vs g t e [] ss = some ([], ss) := rfl
@[simp] theorem compF_cons (vs g t e d r) (ss : SS) : compF vs g t e (d :: r) ss = match turnF vs g t e d ss with
  | none => none
  | some (o, s1) => match compF vs g t e r s1 with
    | none => none
    | some (xs, s2) => some (o.toList ++ xs, s2) := rfl
@[simp] theorem turnF_def (vs g t e d) (ss : SS) : turnF vs g t e d ss = match g d (lend ss) with
  | none => none
  | some s1 => match t s1 with
    | .no => none
    | .ok false s2 => some (none, unlend ss (wipeS s2 vs))
    | .ok true s2 => match e s2 with
      | .no => none
      | .ok x s3 => some (some x, unlend ss (wipeS s3 vs)) := rfl
end Dm
namespace Dm
open PySem L2 Dt
theorem cut_from (xs : List D) (k : Nat) : cutD xs (some (k : Int)) none = xs.drop k := by
  unfold cutD
  rw [HT.sIx_none, HT.sIx_nat]
  by_cases h : k ≤ xs.length
  · rw [Nat.min_eq_left h, List.take_of_length_le (by simp)]
  · rw [Nat.min_eq_right (by omega), List.drop_of_length_le (Nat.le_refl _), List.drop_of_length_le (by omega)]
    simp
theorem cut_to (xs : List D) (k : Nat) : cutD xs none (some (k : Int)) = xs.take k := by
  unfold cutD
  rw [HT.sIx_none, HT.sIx_nat, List.drop_zero, Nat.sub_zero]
  by_cases h : k ≤ xs.length
  · rw [Nat.min_eq_left h]
  · rw [Nat.min_eq_right (by omega), List.take_of_length_le (Nat.le_refl _), List.take_of_length_le (by omega)]
@[simp] theorem cut_1 (xs : List D) : cutD xs (some 1) none = xs.drop 1 := cut_from xs 1
@[simp] theorem cut_2 (xs : List D) : cutD xs (some 2) none = xs.drop 2 := cut_from xs 2
@[simp] theorem cut_3 (xs : List D) : cutD xs (some 3) none = xs.drop 3 := cut_from xs 3
@[simp] theorem cut_t2 (xs : List D) : cutD xs none (some 2) = xs.take 2 := cut_to xs 2
@[simp] theorem cut_t3 (xs : List D) : cutD xs none (some 3) = xs.take 3 := cut_to xs 3
@[simp] theorem cut_t4 (xs : List D) : cutD xs none (some 4) = xs.take 4 := cut_to xs 4
theorem zip_map {α β : Type} (f : α → D) (g : β → D) : ∀ (xs : List α) (ys : List β), zipD (xs.map f) (ys.map g) = (xs.zip ys).map fun p : α × β => (.tuple [f p.1, g p.2] : D)
  | [], _ => by simp [zipD]
  | _ :: _, [] => by simp [zipD]
  | x :: xs, y :: ys => by
    have := zip_map f g xs ys
    unfold zipD at *
    simp [this]
@[simp] theorem q_lZip (f : FL) (ss : SS) : lZip f ss = (f ss).bind fun d s1 => match d with
  | [.list xs, .list ys] => .ok (zipD xs ys) s1
  | [.tuple xs, .tuple ys] => .ok (zipD xs ys) s1
  | _ => .no := rfl
end Dm
namespace Dm
open PySem L2 Dt
theorem seq_nx {a b : FS} {ss s1 : SS} (h : a ss = .nx s1) : sSeq a b ss = b s1 := by rw [q_sSeq, h, q_then_nx]
theorem seq_rt {a b : FS} {ss s1 : SS} {r : Sl} (h : a ss = .rt r s1) : sSeq a b ss = .rt r s1 := by rw [q_sSeq, h, q_then_rt]
end Dm

/-! Rn: ranges, in plain Lean. -/
namespace Rn
abbrev Pr := Int × Int
def Mem (ps : List Pr) (x : Int) : Prop := ∃ p ∈ ps, p.1 ≤ x ∧ x ≤ p.2
theorem mem_cons {p : Pr} {ps : List Pr} {x : Int} : Mem (p :: ps) x ↔ (p.1 ≤ x ∧ x ≤ p.2) ∨ Mem ps x := by
  simp [Mem]
theorem mem_nil {x : Int} : ¬Mem [] x := by simp [Mem]
def Can (lo hi : Int) : List Pr → Prop
  | [] => True
  | p :: r => lo ≤ p.1 ∧ p.1 ≤ p.2 ∧ p.2 ≤ hi ∧ Can (p.2 + 2) hi r
theorem Can.low {hi x : Int} : ∀ {ps : List Pr} {lo : Int}, Can lo hi ps → Mem ps x → lo ≤ x ∧ x ≤ hi
  | p :: r, lo, h, m => by
    rcases mem_cons.mp m with m | m
    · exact ⟨Int.le_trans h.1 m.1, Int.le_trans m.2 h.2.2.1⟩
    · have := Can.low h.2.2.2 m
      have := h.1
      have := h.2.1
      omega
  | [], lo, h, m => (mem_nil m).elim
theorem Can.ext {hi hi' : Int} : ∀ {ps qs : List Pr} {lo lo' : Int}, Can lo hi ps → Can lo' hi' qs → (∀ x, Mem ps x ↔ Mem qs x) → ps = qs
  | [], [], _, _, _, _, _ => rfl
  | [], q :: s, _, _, _, h, e => ((mem_nil ((e q.1).mpr (mem_cons.mpr (.inl ⟨Int.le_refl _, h.2.1⟩)))).elim)
  | q :: s, [], _, _, h, _, e => ((mem_nil ((e q.1).mp (mem_cons.mpr (.inl ⟨Int.le_refl _, h.2.1⟩)))).elim)
  | p :: r, q :: s, lo, lo', h, k, e => by
    obtain ⟨h1, h2, h3, h4⟩ := h
    obtain ⟨k1, k2, k3, k4⟩ := k
    have a1 : q.1 ≤ p.1 := by
      rcases mem_cons.mp ((e p.1).mp (mem_cons.mpr (.inl ⟨Int.le_refl _, h2⟩))) with m | m
      · exact m.1
      · have := (k4.low m).1; omega
    have a2 : p.1 ≤ q.1 := by
      rcases mem_cons.mp ((e q.1).mpr (mem_cons.mpr (.inl ⟨Int.le_refl _, k2⟩))) with m | m
      · exact m.1
      · have := (h4.low m).1; omega
    have a3 : p.2 ≤ q.2 := by
      refine Decidable.byContradiction fun hn => ?_
      rcases mem_cons.mp ((e (q.2 + 1)).mp (mem_cons.mpr (.inl ⟨by omega, by omega⟩))) with m | m
      · omega
      · have := (k4.low m).1; omega
    have a4 : q.2 ≤ p.2 := by
      refine Decidable.byContradiction fun hn => ?_
      rcases mem_cons.mp ((e (p.2 + 1)).mpr (mem_cons.mpr (.inl ⟨by omega, by omega⟩))) with m | m
      · omega
      · have := (h4.low m).1; omega
    have a : p = q := Prod.ext (Int.le_antisymm a2 a1) (Int.le_antisymm a3 a4)
    subst a
    refine congrArg (p :: ·) (Can.ext h4 k4 fun x => ⟨fun m => ?_, fun m => ?_⟩)
    · rcases mem_cons.mp ((e x).mp (mem_cons.mpr (.inr m))) with m' | m'
      · have := (h4.low m).1; omega
      · exact m'
    · rcases mem_cons.mp ((e x).mpr (mem_cons.mpr (.inr m))) with m' | m'
      · have := (k4.low m).1; omega
      · exact m'
/-! ### joining, the list backwards -/
def jstep (acc : List Pr) (p : Pr) : List Pr := match acc with
  | [] => if p.1 ≤ p.2 then [p] else []
  | q :: r => if p.1 ≤ q.2 + 1 then (q.1, if p.2 > q.2 then p.2 else q.2) :: r else if p.1 ≤ p.2 then p :: q :: r else q :: r
/-- backwards: the last one first -/
def Bk (lo hi : Int) : List Pr → Prop
  | [] => True
  | p :: r => lo ≤ p.1 ∧ p.1 ≤ p.2 ∧ p.2 ≤ hi ∧ (∀ q ∈ r, q.2 + 2 ≤ p.1) ∧ Bk lo hi r
theorem jstep_ok {lo hi : Int} {acc : List Pr} {p : Pr} (h : Bk lo hi acc) (hs : ∀ q ∈ acc, q.1 ≤ p.1) (h1 : lo ≤ p.1) (h2 : p.1 ≤ p.2) (h3 : p.2 ≤ hi) : Bk lo hi (jstep acc p) ∧ (∀ q ∈ jstep acc p, q.1 ≤ p.1) ∧ (∀ x, Mem (jstep acc p) x ↔ Mem acc x ∨ (p.1 ≤ x ∧ x ≤ p.2)) ∧ (jstep acc p).length ≤ acc.length + 1 := by
  cases acc with
  | nil =>
    unfold jstep
    rw [if_pos h2]
    refine ⟨⟨h1, h2, h3, fun q hq => (nomatch hq), trivial⟩, fun q hq => ?_, fun x => ?_, by simp⟩
    · rw [List.mem_singleton.mp hq]; exact Int.le_refl _
    · rw [mem_cons]
      simp [mem_nil]
  | cons q r =>
    obtain ⟨k1, k2, k3, k4, k5⟩ := h
    have hq := hs q List.mem_cons_self
    unfold jstep
    simp only
    by_cases hj : p.1 ≤ q.2 + 1
    · rw [if_pos hj]
      refine ⟨⟨k1, ?_, ?_, k4, k5⟩, fun s hS => ?_, fun x => ?_, by simp⟩
      · show q.1 ≤ (if p.2 > q.2 then p.2 else q.2)
        split <;> omega
      · show (if p.2 > q.2 then p.2 else q.2) ≤ hi
        split <;> omega
      · rcases List.mem_cons.mp hS with rfl | hS
        · exact hq
        · exact hs s (List.mem_cons_of_mem _ hS)
      · rw [mem_cons, mem_cons]
        have : (q.1 ≤ x ∧ x ≤ (if p.2 > q.2 then p.2 else q.2)) ↔ (q.1 ≤ x ∧ x ≤ q.2) ∨ (p.1 ≤ x ∧ x ≤ p.2) := by
          split <;> omega
        show (q.1 ≤ x ∧ x ≤ (if p.2 > q.2 then p.2 else q.2)) ∨ Mem r x ↔ _
        rw [this]
        constructor
        · rintro ((h | h) | h)
          · exact .inl (.inl h)
          · exact .inr h
          · exact .inl (.inr h)
        · rintro ((h | h) | h)
          · exact .inl (.inl h)
          · exact .inr h
          · exact .inl (.inr h)
    · rw [if_neg hj, if_pos h2]
      refine ⟨⟨h1, h2, h3, fun s hS => ?_, k1, k2, k3, k4, k5⟩, fun s hS => ?_, fun x => ?_, by simp⟩
      · rcases List.mem_cons.mp hS with rfl | hS
        · omega
        · have := k4 s hS; omega
      · rcases List.mem_cons.mp hS with rfl | hS
        · exact Int.le_refl _
        · exact hs s hS
      · rw [mem_cons]
        exact Or.comm
theorem jfold_ok {lo hi : Int} : ∀ {ps acc : List Pr}, Bk lo hi acc → ps.Pairwise (fun a b => a.1 ≤ b.1) → (∀ q ∈ acc, ∀ p ∈ ps, q.1 ≤ p.1) → (∀ p ∈ ps, lo ≤ p.1 ∧ p.1 ≤ p.2 ∧ p.2 ≤ hi) →
    Bk lo hi (ps.foldl jstep acc) ∧ (∀ x, Mem (ps.foldl jstep acc) x ↔ Mem acc x ∨ Mem ps x) ∧ (ps.foldl jstep acc).length ≤ acc.length + ps.length
  | [], acc, h, _, _, _ => ⟨h, fun x => by simp [mem_nil], Nat.le_refl _⟩
  | p :: ps, acc, h, hp, hs, hb => by
    obtain ⟨b1, b2, b3⟩ := hb p List.mem_cons_self
    obtain ⟨k1, k2, k3, k4⟩ := jstep_ok h (fun q hq => hs q hq p List.mem_cons_self) b1 b2 b3
    obtain ⟨m1, m2, m3⟩ := jfold_ok (ps := ps) k1 (List.pairwise_cons.mp hp).2 (fun q hq p' hp' => Int.le_trans (k2 q hq) ((List.pairwise_cons.mp hp).1 p' hp')) fun q hq => hb q (List.mem_cons_of_mem _ hq)
    refine ⟨m1, fun x => ?_, by rw [List.length_cons]; simp only [List.foldl_cons]; omega⟩
    rw [List.foldl_cons, m2, k3, mem_cons, or_assoc]
theorem can_snoc {hi : Int} {p : Pr} : ∀ {qs : List Pr} {lo : Int}, Can lo hi qs → (∀ q ∈ qs, q.2 + 2 ≤ p.1) → lo ≤ p.1 → p.1 ≤ p.2 → p.2 ≤ hi → Can lo hi (qs ++ [p])
  | [], lo, _, _, h1, h2, h3 => ⟨h1, h2, h3, trivial⟩
  | q :: qs, lo, h, hs, h1, h2, h3 => ⟨h.1, h.2.1, h.2.2.1, can_snoc h.2.2.2 (fun q' hq => hs q' (List.mem_cons_of_mem _ hq)) (hs q List.mem_cons_self) h2 h3⟩
theorem Bk.can {lo hi : Int} : ∀ {acc : List Pr}, Bk lo hi acc → Can lo hi acc.reverse
  | [], _ => trivial
  | p :: r, h => by
    rw [List.reverse_cons]
    exact can_snoc h.2.2.2.2.can (fun q hq => h.2.2.2.1 q (List.mem_reverse.mp hq)) h.1 h.2.1 h.2.2.1
theorem mem_rev {ps : List Pr} {x : Int} : Mem ps.reverse x ↔ Mem ps x := by simp [Mem]
theorem mem_perm {ps qs : List Pr} (h : ps.Perm qs) {x : Int} : Mem ps x ↔ Mem qs x := by
  unfold Mem
  constructor
  · rintro ⟨p, hp, k⟩; exact ⟨p, h.mem_iff.mp hp, k⟩
  · rintro ⟨p, hp, k⟩; exact ⟨p, h.mem_iff.mpr hp, k⟩
/-- a list in order by its first numbers, joined -/
def join (ps : List Pr) : List Pr := (ps.foldl jstep []).reverse
theorem join_ok {lo hi : Int} {ps : List Pr} (hp : ps.Pairwise fun a b => a.1 ≤ b.1) (hb : ∀ p ∈ ps, lo ≤ p.1 ∧ p.1 ≤ p.2 ∧ p.2 ≤ hi) : Can lo hi (join ps) ∧ (∀ x, Mem (join ps) x ↔ Mem ps x) ∧ (join ps).length ≤ ps.length := by
  obtain ⟨m1, m2, m3⟩ := jfold_ok (lo := lo) (hi := hi) (acc := []) trivial hp (fun q hq => nomatch hq) hb
  refine ⟨m1.can, fun x => ?_, by unfold join; rw [List.length_reverse]; simpa using m3⟩
  unfold join
  rw [mem_rev, m2]
  simp [mem_nil]
/-! ### counting -/
def cnt (P : Int → Prop) [DecidablePred P] : Nat → Int
  | 0 => 0
  | n + 1 => cnt P n + if P n then 1 else 0
theorem cnt_ie {P Q : Int → Prop} [DecidablePred P] [DecidablePred Q] : ∀ n : Nat, cnt (fun x => P x ∨ Q x) n + cnt (fun x => P x ∧ Q x) n = cnt P n + cnt Q n
  | 0 => rfl
  | n + 1 => by
    have := cnt_ie (P := P) (Q := Q) n
    unfold cnt
    by_cases h1 : P n <;> by_cases h2 : Q n <;> simp [h1, h2] <;> omega
theorem cnt_congr {P Q : Int → Prop} [DecidablePred P] [DecidablePred Q] (h : ∀ x, P x ↔ Q x) : ∀ n : Nat, cnt P n = cnt Q n
  | 0 => rfl
  | n + 1 => by
    unfold cnt
    rw [cnt_congr h n]
    by_cases h1 : P n
    · rw [if_pos h1, if_pos ((h _).mp h1)]
    · rw [if_neg h1, if_neg fun k => h1 ((h _).mpr k)]
theorem cnt_or {P Q : Int → Prop} [DecidablePred P] [DecidablePred Q] (h : ∀ x, P x → Q x → False) : ∀ n : Nat, cnt (fun x => P x ∨ Q x) n = cnt P n + cnt Q n
  | 0 => rfl
  | n + 1 => by
    have := cnt_or h n
    unfold cnt
    by_cases h1 : P n
    · have h2 : ¬Q n := fun k => h _ h1 k
      simp [h1, h2]; omega
    · by_cases h2 : Q n <;> simp [h1, h2] <;> omega
theorem cnt_iv {a b : Int} (h0 : 0 ≤ a) (h1 : a ≤ b) : ∀ n : Nat, cnt (fun x => a ≤ x ∧ x ≤ b) n = if (n : Int) ≤ a then 0 else if (n : Int) ≤ b + 1 then n - a else b - a + 1
  | 0 => by simp [cnt]; omega
  | n + 1 => by
    unfold cnt
    rw [cnt_iv h0 h1 n]
    have e : ((n + 1 : Nat) : Int) = n + 1 := by omega
    rw [e]
    repeat' split
    all_goals omega
def tot (ps : List Pr) : Int := (ps.map fun p => p.2 - p.1 + 1).sum
instance decMem (ps : List Pr) : DecidablePred (Mem ps) := fun x => by unfold Mem; exact inferInstance
theorem tot_cnt {hi : Int} {n : Nat} (hn : hi < n) : ∀ {ps : List Pr} {lo : Int}, 0 ≤ lo → Can lo hi ps → tot ps = cnt (Mem ps) n
  | [], lo, _, _ => by
    have : ∀ m : Nat, cnt (Mem []) m = 0 := fun m => by
      induction m with
      | zero => rfl
      | succ m ih => unfold cnt; rw [ih, if_neg mem_nil]; rfl
    rw [this]; rfl
  | p :: r, lo, h0, h => by
    obtain ⟨h1, h2, h3, h4⟩ := h
    have ih := tot_cnt hn (ps := r) (by omega) h4
    rw [cnt_congr (Q := fun x => (p.1 ≤ x ∧ x ≤ p.2) ∨ Mem r x) (fun x => mem_cons), cnt_or fun x k1 k2 => by have := (h4.low k2).1; omega]
    rw [← ih, cnt_iv (by omega) h2, if_neg (by omega)]
    have e : tot (p :: r) = (p.2 - p.1 + 1) + tot r := rfl
    rw [e]
    split <;> omega
end Rn

set_option maxHeartbeats 2000000
namespace G
open PySem PySem.Spec L2 Dt
open PyProof.Rows hiding St
def top (i : Nat) : Stmt := PySem.Challenge.pw_wareyard_k03_whole_ranges_reckoned.main.body.getD i (.Pass ⟨0, 0, 0, 0⟩)
def k_LAST : D := (.tuple [(.int 99), (.int 99), (.int 99)])
abbrev S_place_of_0 : FS := (sRet (eOp dAdd (eOp dAdd (eOp dMul (eOp dIx (eV 0) (eC (.int 0))) (eC (.int 10000))) (eOp dMul (eOp dIx (eV 0) (eC (.int 1))) (eC (.int 100)))) (eOp dIx (eV 0) (eC (.int 2)))))
abbrev s_place_of : Stmt := top 2
theorem sc_place_of : FnScope ["edition"] ["edition"] (defScope s_place_of) := ⟨rfl, rfl, rfl, by decide +kernel, rfl, by decide +kernel, by decide +kernel⟩
def B_place_of : FS := S_place_of_0
def F_place_of : FnS := callF 1 B_place_of
abbrev S_edition_at_0 : FS := (sRet (eTup (lCons (eOp dDiv (eV 0) (eC (.int 10000))) (lCons (eOp dMod (eOp dDiv (eV 0) (eC (.int 100))) (eC (.int 100))) (lCons (eOp dMod (eV 0) (eC (.int 100))) lNil)))))
abbrev s_edition_at : Stmt := top 3
theorem sc_edition_at : FnScope ["place"] ["place"] (defScope s_edition_at) := ⟨rfl, rfl, rfl, by decide +kernel, rfl, by decide +kernel, by decide +kernel⟩
def B_edition_at : FS := S_edition_at_0
def F_edition_at : FnS := callF 1 B_edition_at
abbrev S_spans_of_0 : FS := (sRet (eFz (nLc [1, 2] (lSeq (eV 0)) (gTup 2 (gCons (gN 1) (gCons (gN 2) gNil))) bYes (eTup (lCons (eCall F_place_of (aCons (eV 1) aNil)) (lCons (eCall F_place_of (aCons (eV 2) aNil)) lNil))))))
abbrev s_spans_of : Stmt := top 5
theorem sc_spans_of : FnScope ["one", "low", "high"] ["one"] (defScope s_spans_of) := ⟨rfl, rfl, rfl, by decide +kernel, rfl, by decide +kernel, by decide +kernel⟩
def B_spans_of : FS := S_spans_of_0
def F_spans_of : FnS := callF 3 B_spans_of
abbrev S_joined_0 : FS := (sOwn (nLst lNil) 1)
abbrev S_joined_1_0_a0 : FS := (sSetL 1 (eUn dNeg (eC (.int 1))) (eTup (lCons (eOp dIx (eOix 1 (eUn dNeg (eC (.int 1)))) (eC (.int 0))) (lCons (eCB gMax (lCons (eOp dIx (eOix 1 (eUn dNeg (eC (.int 1)))) (eC (.int 1))) (lCons (eV 3) lNil))) lNil))))
abbrev S_joined_1_0_b0_a0 : FS := (sApp 1 (eTup (lCons (eV 2) (lCons (eV 3) lNil))))
abbrev S_joined_1_0_b0 : FS := (sIf (bOf (eOp dLe (eV 2) (eV 3))) S_joined_1_0_b0_a0 sNil)
abbrev S_joined_1_0 : FS := (sIf (bAnd (bOf (ePkL dNe 1 (eFz (nLst lNil)))) (bOf (eOp dLe (eV 2) (eOp dAdd (eOp dIx (eOix 1 (eUn dNeg (eC (.int 1)))) (eC (.int 1))) (eC (.int 1)))))) S_joined_1_0_a0 S_joined_1_0_b0)
abbrev S_joined_1 : FS := (sFor (lSeq (eFz (nCB gSorted (lCons (eV 0) lNil)))) (gTup 2 (gCons (gN 2) (gCons (gN 3) gNil))) S_joined_1_0)
abbrev S_joined_2 : FS := (sRet (eCB gTuple (lCons (eFz (nLc [2, 3] (lSeq (eVF 1)) (gTup 2 (gCons (gN 2) (gCons (gN 3) gNil))) bYes (eTup (lCons (eCall F_edition_at (aCons (eV 2) aNil)) (lCons (eCall F_edition_at (aCons (eV 3) aNil)) lNil))))) lNil)))
abbrev s_joined : Stmt := top 6
theorem sc_joined : FnScope ["spans", "found", "low", "high"] ["spans"] (defScope s_joined) := ⟨rfl, rfl, rfl, by decide +kernel, rfl, by decide +kernel, by decide +kernel⟩
def B_joined : FS := (sSeq S_joined_0
    (sSeq S_joined_1
    S_joined_2))
def F_joined : FnS := callF 4 B_joined
abbrev S_both_0 : FS := (sAsg (eFz (nLc2 [3, 4] [4] (lSeq (eCall F_spans_of (aCons (eV 0) aNil))) (gN 3) bYes (lSeq (eCall F_spans_of (aCons (eV 1) aNil))) (gN 4) bYes (eTup (lCons (eCB gMax (lCons (eOp dIx (eV 3) (eC (.int 0))) (lCons (eOp dIx (eV 4) (eC (.int 0))) lNil))) (lCons (eCB gMin (lCons (eOp dIx (eV 3) (eC (.int 1))) (lCons (eOp dIx (eV 4) (eC (.int 1))) lNil))) lNil))))) (gN 2))
abbrev S_both_1 : FS := (sRet (eCall F_joined (aCons (eFz (nLc [5] (lSeq (eV 2)) (gN 5) (bOf (eOp dLe (eOp dIx (eV 5) (eC (.int 0))) (eOp dIx (eV 5) (eC (.int 1))))) (eV 5))) aNil)))
abbrev s_both : Stmt := top 7
theorem sc_both : FnScope ["one", "other", "spans", "a", "b", "span"] ["one", "other"] (defScope s_both) := ⟨rfl, rfl, rfl, by decide +kernel, rfl, by decide +kernel, by decide +kernel⟩
def B_both : FS := (sSeq S_both_0
    S_both_1)
def F_both : FnS := callF 6 B_both
abbrev S_either_0 : FS := (sRet (eCall F_joined (aCons (eOp dAdd (eCall F_spans_of (aCons (eV 0) aNil)) (eCall F_spans_of (aCons (eV 1) aNil))) aNil)))
abbrev s_either : Stmt := top 8
theorem sc_either : FnScope ["one", "other"] ["one", "other"] (defScope s_either) := ⟨rfl, rfl, rfl, by decide +kernel, rfl, by decide +kernel, by decide +kernel⟩
def B_either : FS := S_either_0
def F_either : FnS := callF 2 B_either
abbrev S_rest_0 : FS := (sOwn (nLst lNil) 1)
abbrev S_rest_1 : FS := (sAsg (eC (.int 0)) (gN 2))
abbrev S_rest_2_0 : FS := (sApp 1 (eTup (lCons (eV 2) (lCons (eOp dSub (eV 3) (eC (.int 1))) lNil))))
abbrev S_rest_2_1 : FS := (sAsg (eOp dAdd (eV 4) (eC (.int 1))) (gN 2))
abbrev L_rest_2 : FS := (sSeq S_rest_2_0
    S_rest_2_1)
abbrev S_rest_2 : FS := (sFor (lSeq (eCall F_spans_of (aCons (eV 0) aNil))) (gTup 2 (gCons (gN 3) (gCons (gN 4) gNil))) L_rest_2)
abbrev S_rest_3 : FS := (sApp 1 (eTup (lCons (eV 2) (lCons (eCall F_place_of (aCons (eC k_LAST) aNil)) lNil))))
abbrev S_rest_4 : FS := (sRet (eCall F_joined (aCons (eFz (nLc [5] (lSeq (eVF 1)) (gN 5) (bOf (eOp dLe (eOp dIx (eV 5) (eC (.int 0))) (eOp dIx (eV 5) (eC (.int 1))))) (eV 5))) aNil)))
abbrev s_rest : Stmt := top 9
theorem sc_rest : FnScope ["one", "spans", "low", "first", "last", "span"] ["one"] (defScope s_rest) := ⟨rfl, rfl, rfl, by decide +kernel, rfl, by decide +kernel, by decide +kernel⟩
def B_rest : FS := (sSeq S_rest_0
    (sSeq S_rest_1
    (sSeq S_rest_2
    (sSeq S_rest_3
    S_rest_4))))
def F_rest : FnS := callF 6 B_rest
abbrev S_has_0 : FS := (sRet (eCB gAny (lCons (eFz (nLc [2, 3] (lSeq (eV 0)) (gTup 2 (gCons (gN 2) (gCons (gN 3) gNil))) bYes (eCh dLe dLe (eV 2) (eV 1) (eV 3)))) lNil)))
abbrev s_has : Stmt := top 10
theorem sc_has : FnScope ["one", "edition", "low", "high"] ["one", "edition"] (defScope s_has) := ⟨rfl, rfl, rfl, by decide +kernel, rfl, by decide +kernel, by decide +kernel⟩
def B_has : FS := S_has_0
def F_has : FnS := callF 4 B_has
abbrev S_is_within_0 : FS := (sRet (eOp dEq (eCall F_both (aCons (eV 0) (aCons (eV 1) aNil))) (eV 0)))
abbrev s_is_within : Stmt := top 11
theorem sc_is_within : FnScope ["one", "other"] ["one", "other"] (defScope s_is_within) := ⟨rfl, rfl, rfl, by decide +kernel, rfl, by decide +kernel, by decide +kernel⟩
def B_is_within : FS := S_is_within_0
def F_is_within : FnS := callF 2 B_is_within
abbrev S_count_0 : FS := (sRet (eCB gSum (lCons (eFz (nLc [1, 2] (lSeq (eCall F_spans_of (aCons (eV 0) aNil))) (gTup 2 (gCons (gN 1) (gCons (gN 2) gNil))) bYes (eOp dAdd (eOp dSub (eV 2) (eV 1)) (eC (.int 1))))) lNil)))
abbrev s_count : Stmt := top 12
theorem sc_count : FnScope ["one", "low", "high"] ["one"] (defScope s_count) := ⟨rfl, rfl, rfl, by decide +kernel, rfl, by decide +kernel, by decide +kernel⟩
def B_count : FS := S_count_0
def F_count : FnS := callF 3 B_count
abbrev S__law_deck_0_a0 : FS := (sRetN (nLst (lCons (eOp dSub (eV 0) (eOp dPow (eC (.int 10)) (eC (.int 18)))) (lCons (eOp dMod (eV 0) (eC (.int 2147483579))) (lCons (eV 1) lNil)))))
abbrev S__law_deck_0 : FS := (sIf (bOf (eOp dGe (eV 0) (eOp dPow (eC (.int 10)) (eC (.int 18))))) S__law_deck_0_a0 sNil)
abbrev S__law_deck_1 : FS := (sRetN (nLst (lCons (eC (.int 0)) (lCons (eOp dMod (eV 0) (eC (.int 2147483579))) (lCons (eV 1) lNil)))))
abbrev s__law_deck : Stmt := top 14
theorem sc__law_deck : FnScope ["cell", "turn"] ["cell", "turn"] (defScope s__law_deck) := ⟨rfl, rfl, rfl, by decide +kernel, rfl, by decide +kernel, by decide +kernel⟩
def B__law_deck : FS := (sSeq S__law_deck_0
    S__law_deck_1)
def F__law_deck : FnS := callF 2 B__law_deck
abbrev S__law_pick_0_a0 : FS := (sAsg (eOp dMod (eOix 0 (eC (.int 0))) (eV 1)) (gN 2))
abbrev S__law_pick_0_a1 : FS := (sSetL 0 (eC (.int 0)) (eOp dDiv (eOix 0 (eC (.int 0))) (eV 1)))
abbrev S__law_pick_0_a2 : FS := (sRet (eV 2))
abbrev S__law_pick_0 : FS := (sIf (bOf (eOp dGt (eOix 0 (eC (.int 0))) (eC (.int 1)))) (sSeq S__law_pick_0_a0
    (sSeq S__law_pick_0_a1
    S__law_pick_0_a2)) sNil)
abbrev S__law_pick_1 : FS := (sSetL 0 (eC (.int 2)) (eOp dAdd (eOix 0 (eC (.int 2))) (eC (.int 1))))
abbrev S__law_pick_2 : FS := (sAsg (eOp dMod (eOp dPow (eOp dAdd (eOix 0 (eC (.int 1))) (eOp dMul (eC (.int 15485867)) (eOix 0 (eC (.int 2))))) (eC (.int 5))) (eC (.int 2147483647))) (gN 3))
abbrev S__law_pick_3 : FS := (sAsg (eOp dDiv (eOp dMod (eOp dPow (eOp dAdd (eV 3) (eOp dMul (eC (.int 7919)) (eOix 0 (eC (.int 2))))) (eC (.int 3))) (eC (.int 2147483629))) (eC (.int 32))) (gN 2))
abbrev S__law_pick_4_a0 : FS := (sRet (eOp dMod (eOp dAdd (eOp dMul (eV 2) (eC (.int 2147483563))) (eV 3)) (eV 1)))
abbrev S__law_pick_4 : FS := (sIf (bOf (eOp dGt (eV 1) (eC (.int 1000000)))) S__law_pick_4_a0 sNil)
abbrev S__law_pick_5 : FS := (sRet (eOp dMod (eV 2) (eV 1)))
abbrev s__law_pick : Stmt := top 15
theorem sc__law_pick : FnScope ["deck", "many", "found", "number"] ["deck", "many"] (defScope s__law_pick) := ⟨rfl, rfl, rfl, by decide +kernel, rfl, by decide +kernel, by decide +kernel⟩
def B__law_pick : FS := (sSeq S__law_pick_0
    (sSeq S__law_pick_1
    (sSeq S__law_pick_2
    (sSeq S__law_pick_3
    (sSeq S__law_pick_4
    S__law_pick_5)))))
def F__law_pick : FnS := callF 4 B__law_pick
abbrev S__law_whole_0 : FS := (sRet (eAnd (eUn (dIs "int") (eV 0)) (eNot (eUn (dIs "bool") (eV 0)))))
abbrev s__law_whole : Stmt := top 16
theorem sc__law_whole : FnScope ["thing"] ["thing"] (defScope s__law_whole) := ⟨rfl, rfl, rfl, by decide +kernel, rfl, by decide +kernel, by decide +kernel⟩
def B__law_whole : FS := S__law_whole_0
def F__law_whole : FnS := callF 1 B__law_whole
abbrev S__law_edition_0 : FS := (sAsg (eCall F__law_pick (aRef 0 (aCons (eC (.int 5)) aNil))) (gN 1))
abbrev S__law_edition_1_a0 : FS := (sRet (eTup (lCons (eCall F__law_pick (aRef 0 (aCons (eC (.int 3)) aNil))) (lCons (eCall F__law_pick (aRef 0 (aCons (eC (.int 2)) aNil))) (lCons (eC (.int 0)) lNil)))))
abbrev S__law_edition_1 : FS := (sIf (bOf (eOp dLt (eV 1) (eC (.int 4)))) S__law_edition_1_a0 sNil)
abbrev S__law_edition_2 : FS := (sAsg (eFz (nLst (lCons (eC (.int 0)) (lCons (eC (.int 1)) (lCons (eC (.int 99)) (lCons (eCall F__law_pick (aRef 0 (aCons (eC (.int 100)) aNil))) lNil)))))) (gN 2))
abbrev S__law_edition_3 : FS := (sRet (eTup (lCons (eOp dIx (eV 2) (eCall F__law_pick (aRef 0 (aCons (eC (.int 4)) aNil)))) (lCons (eOp dIx (eV 2) (eCall F__law_pick (aRef 0 (aCons (eC (.int 4)) aNil)))) (lCons (eOp dIx (eV 2) (eCall F__law_pick (aRef 0 (aCons (eC (.int 4)) aNil)))) lNil)))))
abbrev s__law_edition : Stmt := top 17
theorem sc__law_edition : FnScope ["deck", "way", "some"] ["deck"] (defScope s__law_edition) := ⟨rfl, rfl, rfl, by decide +kernel, rfl, by decide +kernel, by decide +kernel⟩
def B__law_edition : FS := (sSeq S__law_edition_0
    (sSeq S__law_edition_1
    (sSeq S__law_edition_2
    S__law_edition_3)))
def F__law_edition : FnS := callF 3 B__law_edition
abbrev S__law_place_0 : FS := (sRet (eOp dAdd (eOp dAdd (eOp dMul (eOp dIx (eV 0) (eC (.int 0))) (eC (.int 10000))) (eOp dMul (eOp dIx (eV 0) (eC (.int 1))) (eC (.int 100)))) (eOp dIx (eV 0) (eC (.int 2)))))
abbrev s__law_place : Stmt := top 18
theorem sc__law_place : FnScope ["edition"] ["edition"] (defScope s__law_place) := ⟨rfl, rfl, rfl, by decide +kernel, rfl, by decide +kernel, by decide +kernel⟩
def B__law_place : FS := S__law_place_0
def F__law_place : FnS := callF 1 B__law_place
abbrev S__law_at_0 : FS := (sRet (eTup (lCons (eOp dDiv (eV 0) (eC (.int 10000))) (lCons (eOp dMod (eOp dDiv (eV 0) (eC (.int 100))) (eC (.int 100))) (lCons (eOp dMod (eV 0) (eC (.int 100))) lNil)))))
abbrev s__law_at : Stmt := top 19
theorem sc__law_at : FnScope ["place"] ["place"] (defScope s__law_at) := ⟨rfl, rfl, rfl, by decide +kernel, rfl, by decide +kernel, by decide +kernel⟩
def B__law_at : FS := S__law_at_0
def F__law_at : FnS := callF 1 B__law_at
abbrev S__law_joined_0 : FS := (sOwn (nLst lNil) 1)
abbrev S__law_joined_1_0_a0 : FS := (sSetL 1 (eUn dNeg (eC (.int 1))) (eTup (lCons (eOp dIx (eOix 1 (eUn dNeg (eC (.int 1)))) (eC (.int 0))) (lCons (eCB gMax (lCons (eV 3) (lCons (eOp dIx (eOix 1 (eUn dNeg (eC (.int 1)))) (eC (.int 1))) lNil))) lNil))))
abbrev S__law_joined_1_0_b0 : FS := (sApp 1 (eTup (lCons (eV 2) (lCons (eV 3) lNil))))
abbrev S__law_joined_1_0 : FS := (sIf (bAnd (bOf (ePkL dNe 1 (eFz (nLst lNil)))) (bOf (eOp dLe (eV 2) (eOp dAdd (eOp dIx (eOix 1 (eUn dNeg (eC (.int 1)))) (eC (.int 1))) (eC (.int 1)))))) S__law_joined_1_0_a0 S__law_joined_1_0_b0)
abbrev S__law_joined_1 : FS := (sFor (lSeq (eFz (nCB gSorted (lCons (eV 0) lNil)))) (gTup 2 (gCons (gN 2) (gCons (gN 3) gNil))) S__law_joined_1_0)
abbrev S__law_joined_2 : FS := (sRet (eCB gTuple (lCons (eFz (nLc [2, 3] (lSeq (eVF 1)) (gTup 2 (gCons (gN 2) (gCons (gN 3) gNil))) bYes (eTup (lCons (eCall F__law_at (aCons (eV 2) aNil)) (lCons (eCall F__law_at (aCons (eV 3) aNil)) lNil))))) lNil)))
abbrev s__law_joined : Stmt := top 20
theorem sc__law_joined : FnScope ["spans", "found", "low", "high"] ["spans"] (defScope s__law_joined) := ⟨rfl, rfl, rfl, by decide +kernel, rfl, by decide +kernel, by decide +kernel⟩
def B__law_joined : FS := (sSeq S__law_joined_0
    (sSeq S__law_joined_1
    S__law_joined_2))
def F__law_joined : FnS := callF 4 B__law_joined
abbrev S__law_span_0 : FS := (sAsg (eCall F__law_pick (aRef 0 (aCons (eC (.int 9)) aNil))) (gN 1))
abbrev S__law_span_1 : FS := (sAsg (eFz (nCB gSorted (lCons (eFz (nLst (lCons (eCall F__law_place (aCons (eCall F__law_edition (aRef 0 aNil)) aNil)) (lCons (eCall F__law_place (aCons (eCall F__law_edition (aRef 0 aNil)) aNil)) lNil)))) lNil))) (gLst 2 (gCons (gN 2) (gCons (gN 3) gNil))))
abbrev S__law_span_2_a0 : FS := (sRet (eTup (lCons (eTup (lCons (eTup (lCons (eC (.int 0)) (lCons (eC (.int 0)) (lCons (eC (.int 0)) lNil)))) (lCons (eTup (lCons (eC (.int 99)) (lCons (eC (.int 99)) (lCons (eC (.int 99)) lNil)))) lNil))) lNil)))
abbrev S__law_span_2 : FS := (sIf (bOf (eOp dLt (eV 1) (eC (.int 3)))) S__law_span_2_a0 sNil)
abbrev S__law_span_3_a0 : FS := (sRet (eTup (lCons (eTup (lCons (eCall F__law_at (aCons (eV 2) aNil)) (lCons (eTup (lCons (eC (.int 99)) (lCons (eC (.int 99)) (lCons (eC (.int 99)) lNil)))) lNil))) lNil)))
abbrev S__law_span_3 : FS := (sIf (bOf (eOp dEq (eV 1) (eC (.int 3)))) S__law_span_3_a0 sNil)
abbrev S__law_span_4_a0 : FS := (sRet (eTup (lCons (eTup (lCons (eTup (lCons (eC (.int 0)) (lCons (eC (.int 0)) (lCons (eC (.int 0)) lNil)))) (lCons (eCall F__law_at (aCons (eV 3) aNil)) lNil))) lNil)))
abbrev S__law_span_4 : FS := (sIf (bOf (eOp dEq (eV 1) (eC (.int 4)))) S__law_span_4_a0 sNil)
abbrev S__law_span_5_a0 : FS := (sRet (eTup (lCons (eTup (lCons (eCall F__law_at (aCons (eV 2) aNil)) (lCons (eCall F__law_at (aCons (eV 3) aNil)) lNil))) lNil)))
abbrev S__law_span_5 : FS := (sIf (bOf (eOp dLt (eV 1) (eC (.int 7)))) S__law_span_5_a0 sNil)
abbrev S__law_span_6_a0 : FS := (sAsg (eCall F__law_place (aCons (eCall F__law_edition (aRef 0 aNil)) aNil)) (gN 4))
abbrev S__law_span_6_a1 : FS := (sRet (eCall F__law_joined (aCons (eFz (nLst (lCons (eTup (lCons (eV 2) (lCons (eV 2) lNil))) (lCons (eTup (lCons (eV 3) (lCons (eV 3) lNil))) (lCons (eTup (lCons (eV 4) (lCons (eCB gMin (lCons (eC (.int 999999)) (lCons (eOp dAdd (eV 4) (eCall F__law_pick (aRef 0 (aCons (eC (.int 300)) aNil)))) lNil))) lNil))) lNil))))) aNil)))
abbrev S__law_span_6 : FS := (sIf (bOf (eOp dEq (eV 1) (eC (.int 7)))) (sSeq S__law_span_6_a0
    S__law_span_6_a1) sNil)
abbrev S__law_span_7 : FS := (sRet (eCall F__law_joined (aCons (eOp dMul (eFz (nLst (lCons (eTup (lCons (eV 2) (lCons (eV 3) lNil))) lNil))) (eCall F__law_pick (aRef 0 (aCons (eC (.int 2)) aNil)))) aNil)))
abbrev s__law_span : Stmt := top 21
theorem sc__law_span : FnScope ["deck", "way", "one", "other", "more"] ["deck"] (defScope s__law_span) := ⟨rfl, rfl, rfl, by decide +kernel, rfl, by decide +kernel, by decide +kernel⟩
def B__law_span : FS := (sSeq S__law_span_0
    (sSeq S__law_span_1
    (sSeq S__law_span_2
    (sSeq S__law_span_3
    (sSeq S__law_span_4
    (sSeq S__law_span_5
    (sSeq S__law_span_6
    S__law_span_7)))))))
def F__law_span : FnS := callF 5 B__law_span
abbrev S__law_is_edition_0_a0 : FS := (sRet (eC (.bool false)))
abbrev S__law_is_edition_0 : FS := (sIf (bOr (bNot (bOf (eUn (dIs "tuple") (eV 0)))) (bOf (eOp dNe (eCB gLen (lCons (eV 0) lNil)) (eC (.int 3))))) S__law_is_edition_0_a0 sNil)
abbrev S__law_is_edition_1 : FS := (sRet (eOp dEq (eFz (nLc [1] (lSeq (eV 0)) (gN 1) (bOr (bNot (bOf (eCall F__law_whole (aCons (eV 1) aNil)))) (bNot (bOf (eCh dLe dLe (eC (.int 0)) (eV 1) (eC (.int 99)))))) (eV 1))) (eFz (nLst lNil))))
abbrev s__law_is_edition : Stmt := top 22
theorem sc__law_is_edition : FnScope ["thing", "part"] ["thing"] (defScope s__law_is_edition) := ⟨rfl, rfl, rfl, by decide +kernel, rfl, by decide +kernel, by decide +kernel⟩
def B__law_is_edition : FS := (sSeq S__law_is_edition_0
    S__law_is_edition_1)
def F__law_is_edition : FnS := callF 2 B__law_is_edition
abbrev S__law_is_range_0_a0 : FS := (sRet (eC (.bool false)))
abbrev S__law_is_range_0 : FS := (sIf (bNot (bOf (eUn (dIs "tuple") (eV 0)))) S__law_is_range_0_a0 sNil)
abbrev S__law_is_range_1 : FS := (sAsg (eUn dNeg (eC (.int 2))) (gN 1))
abbrev S__law_is_range_2_0_a0 : FS := (sRet (eC (.bool false)))
abbrev S__law_is_range_2_0 : FS := (sIf (bOr (bNot (bOf (eUn (dIs "tuple") (eV 2)))) (bOf (eOp dNe (eCB gLen (lCons (eV 2) lNil)) (eC (.int 2))))) S__law_is_range_2_0_a0 sNil)
abbrev S__law_is_range_2_1_a0 : FS := (sRet (eC (.bool false)))
abbrev S__law_is_range_2_1 : FS := (sIf (bOr (bNot (bOf (eCall F__law_is_edition (aCons (eOp dIx (eV 2) (eC (.int 0))) aNil)))) (bOr (bNot (bOf (eCall F__law_is_edition (aCons (eOp dIx (eV 2) (eC (.int 1))) aNil)))) (bOf (eOp dGt (eOp dIx (eV 2) (eC (.int 0))) (eOp dIx (eV 2) (eC (.int 1))))))) S__law_is_range_2_1_a0 sNil)
abbrev S__law_is_range_2_2_a0 : FS := (sRet (eC (.bool false)))
abbrev S__law_is_range_2_2 : FS := (sIf (bOf (eOp dLt (eCall F__law_place (aCons (eOp dIx (eV 2) (eC (.int 0))) aNil)) (eOp dAdd (eV 1) (eC (.int 2))))) S__law_is_range_2_2_a0 sNil)
abbrev S__law_is_range_2_3 : FS := (sAsg (eCall F__law_place (aCons (eOp dIx (eV 2) (eC (.int 1))) aNil)) (gN 1))
abbrev L__law_is_range_2 : FS := (sSeq S__law_is_range_2_0
    (sSeq S__law_is_range_2_1
    (sSeq S__law_is_range_2_2
    S__law_is_range_2_3)))
abbrev S__law_is_range_2 : FS := (sFor (lSeq (eV 0)) (gN 2) L__law_is_range_2)
abbrev S__law_is_range_3 : FS := (sRet (eC (.bool true)))
abbrev s__law_is_range : Stmt := top 23
theorem sc__law_is_range : FnScope ["thing", "last", "pair"] ["thing"] (defScope s__law_is_range) := ⟨rfl, rfl, rfl, by decide +kernel, rfl, by decide +kernel, by decide +kernel⟩
def B__law_is_range : FS := (sSeq S__law_is_range_0
    (sSeq S__law_is_range_1
    (sSeq S__law_is_range_2
    S__law_is_range_3)))
def F__law_is_range : FnS := callF 3 B__law_is_range
abbrev S__law_in_0 : FS := (sRet (eOp dNe (eFz (nLc [2] (lSeq (eV 0)) (gN 2) (bOf (eCh dLe dLe (eCall F__law_place (aCons (eOp dIx (eV 2) (eC (.int 0))) aNil)) (eV 1) (eCall F__law_place (aCons (eOp dIx (eV 2) (eC (.int 1))) aNil)))) (eV 2))) (eFz (nLst lNil))))
abbrev s__law_in : Stmt := top 24
theorem sc__law_in : FnScope ["span", "place", "pair"] ["span", "place"] (defScope s__law_in) := ⟨rfl, rfl, rfl, by decide +kernel, rfl, by decide +kernel, by decide +kernel⟩
def B__law_in : FS := S__law_in_0
def F__law_in : FnS := callF 3 B__law_in
abbrev S__law_near_0 : FS := (sAsg (eFz (nLst (lCons (eC (.int 0)) (lCons (eC (.int 999999)) lNil)))) (gN 1))
abbrev S__law_near_1_0_0 : FS := (sAsg (eOp dAdd (eOp dAdd (eV 1) (eFz (nLc [8] (lSeq (eTup (lCons (eUn dNeg (eC (.int 1))) (lCons (eC (.int 0)) (lCons (eC (.int 1)) lNil))))) (gN 8) bYes (eOp dAdd (eCall F__law_place (aCons (eV 3) aNil)) (eV 8))))) (eFz (nLc [8] (lSeq (eTup (lCons (eUn dNeg (eC (.int 1))) (lCons (eC (.int 0)) (lCons (eC (.int 1)) lNil))))) (gN 8) bYes (eOp dAdd (eCall F__law_place (aCons (eV 4) aNil)) (eV 8))))) (gN 1))
abbrev S__law_near_1_0 : FS := (sFor (lSeq (eV 2)) (gTup 2 (gCons (gN 3) (gCons (gN 4) gNil))) S__law_near_1_0_0)
abbrev S__law_near_1 : FS := (sFor (lSeq (eV 0)) (gN 2) S__law_near_1_0)
abbrev S__law_near_2 : FS := (sAsg (eFz (nSS (eFz (nLc [7] (lSeq (eV 1)) (gN 7) (bOf (eCh dLe dLe (eC (.int 0)) (eV 7) (eC (.int 999999)))) (eV 7))))) (gN 1))
abbrev S__law_near_3 : FS := (sRet (eOp dAdd (eV 1) (eFz (nLc [5, 6] (lZip (lCons (eV 1) (lCons (eSl (eV 1) (oSome (eC (.int 1))) oNone) lNil))) (gTup 2 (gCons (gN 5) (gCons (gN 6) gNil))) bYes (eOp dDiv (eOp dAdd (eV 5) (eV 6)) (eC (.int 2)))))))
abbrev s__law_near : Stmt := top 25
theorem sc__law_near : FnScope ["spans", "found", "span", "low", "high", "one", "other", "place", "k"] ["spans"] (defScope s__law_near) := ⟨rfl, rfl, rfl, by decide +kernel, rfl, by decide +kernel, by decide +kernel⟩
def B__law_near : FS := (sSeq S__law_near_0
    (sSeq S__law_near_1
    (sSeq S__law_near_2
    S__law_near_3)))
def F__law_near : FnS := callF 9 B__law_near
abbrev S__law_many_0 : FS := (sOwn (nLst lNil) 1)
abbrev S__law_many_1_0 : FS := (sAsg (eOp dIx (eFz (nLst (lCons (eCall F__law_pick (aRef 0 (aCons (eC (.int 40)) aNil))) (lCons (eOp dAdd (eC (.int 10000)) (eCall F__law_pick (aRef 0 (aCons (eC (.int 300)) aNil)))) (lCons (eCall F__law_pick (aRef 0 (aCons (eC (.int 999000)) aNil))) lNil))))) (eCall F__law_pick (aRef 0 (aCons (eC (.int 3)) aNil)))) (gN 3))
abbrev S__law_many_1_1 : FS := (sApp 1 (eTup (lCons (eV 3) (lCons (eOp dAdd (eV 3) (eCall F__law_pick (aRef 0 (aCons (eC (.int 12)) aNil)))) lNil))))
abbrev L__law_many_1 : FS := (sSeq S__law_many_1_0
    S__law_many_1_1)
abbrev S__law_many_1 : FS := (sFor (lRng1 (lCons (eCall F__law_pick (aRef 0 (aCons (eC (.int 5)) aNil))) lNil)) (gN 2) L__law_many_1)
abbrev S__law_many_2 : FS := (sRet (eCall F__law_joined (aCons (eVF 1) aNil)))
abbrev s__law_many : Stmt := top 26
theorem sc__law_many : FnScope ["deck", "spans", "k", "low"] ["deck"] (defScope s__law_many) := ⟨rfl, rfl, rfl, by decide +kernel, rfl, by decide +kernel, by decide +kernel⟩
def B__law_many : FS := (sSeq S__law_many_0
    (sSeq S__law_many_1
    S__law_many_2))
def F__law_many : FnS := callF 4 B__law_many
abbrev S__law_due_right_0 : FS := (sPar [3, 4, 5] (lCons (eCall F_both (aCons (eV 0) (aCons (eV 1) aNil))) (lCons (eCall F_either (aCons (eV 0) (aCons (eV 1) aNil))) (lCons (eCall F_rest (aCons (eV 0) aNil)) lNil))))
abbrev S__law_due_right_1_a0 : FS := (sRet (eC (.bool false)))
abbrev S__law_due_right_1 : FS := (sIf (bOf (eOp dNe (eFz (nLc [9] (lSeq (eTup (lCons (eV 3) (lCons (eV 4) (lCons (eV 5) lNil))))) (gN 9) (bNot (bOf (eCall F__law_is_range (aCons (eV 9) aNil)))) (eV 9))) (eFz (nLst lNil)))) S__law_due_right_1_a0 sNil)
abbrev S__law_due_right_2_0 : FS := (sPar [7, 8] (lCons (eCall F__law_in (aCons (eV 0) (aCons (eV 6) aNil))) (lCons (eCall F__law_in (aCons (eV 1) (aCons (eV 6) aNil))) lNil)))
abbrev S__law_due_right_2_1_a0 : FS := (sRet (eC (.bool false)))
abbrev S__law_due_right_2_1 : FS := (sIf (bOr (bOf (eOp dNe (eCall F_has (aCons (eV 0) (aCons (eCall F__law_at (aCons (eV 6) aNil)) aNil))) (eV 7))) (bOr (bOf (eOp dNe (eCall F__law_in (aCons (eV 3) (aCons (eV 6) aNil))) (eAnd (eV 7) (eV 8)))) (bOf (eOp dNe (eCall F__law_in (aCons (eV 4) (aCons (eV 6) aNil))) (eOr (eV 7) (eV 8)))))) S__law_due_right_2_1_a0 sNil)
abbrev S__law_due_right_2_2_a0 : FS := (sRet (eC (.bool false)))
abbrev S__law_due_right_2_2 : FS := (sIf (bOf (eOp dEq (eCall F__law_in (aCons (eV 5) (aCons (eV 6) aNil))) (eV 7))) S__law_due_right_2_2_a0 sNil)
abbrev L__law_due_right_2 : FS := (sSeq S__law_due_right_2_0
    (sSeq S__law_due_right_2_1
    S__law_due_right_2_2))
abbrev S__law_due_right_2 : FS := (sFor (lSeq (eV 2)) (gN 6) L__law_due_right_2)
abbrev S__law_due_right_3 : FS := (sRet (eC (.bool true)))
abbrev s__law_due_right : Stmt := top 27
theorem sc__law_due_right : FnScope ["one", "other", "places", "meet", "join", "others", "place", "a", "b", "span"] ["one", "other", "places"] (defScope s__law_due_right) := ⟨rfl, rfl, rfl, by decide +kernel, rfl, by decide +kernel, by decide +kernel⟩
def B__law_due_right : FS := (sSeq S__law_due_right_0
    (sSeq S__law_due_right_1
    (sSeq S__law_due_right_2
    S__law_due_right_3)))
def F__law_due_right : FnS := callF 10 B__law_due_right
abbrev S_law_0_0 : FS := (sOwn (nCall F__law_deck (aCons (eV 1) (aCons (eC (.int 0)) aNil))) 2)
abbrev S_law_0_1 : FS := (sAsg (eOp dIx (eFz (nLst (lCons (eCall F__law_span (aRef 2 aNil)) (lCons (eCall F__law_many (aRef 2 aNil)) lNil)))) (eCall F__law_pick (aRef 2 (aCons (eC (.int 2)) aNil)))) (gN 3))
abbrev S_law_0_2 : FS := (sAsg (eOp dIx (eFz (nLst (lCons (eCall F__law_span (aRef 2 aNil)) (lCons (eCall F__law_many (aRef 2 aNil)) (lCons (eV 3) lNil))))) (eCall F__law_pick (aRef 2 (aCons (eC (.int 3)) aNil)))) (gN 4))
abbrev S_law_0_3 : FS := (sAsg (eCall F__law_near (aCons (eFz (nLst (lCons (eV 3) (lCons (eV 4) lNil)))) aNil)) (gN 5))
abbrev S_law_0_4_0_a0 : FS := (sRet (eC (.bool false)))
abbrev S_law_0_4_0 : FS := (sIf (bNot (bOf (eCall F__law_due_right (aCons (eV 6) (aCons (eV 7) (aCons (eV 5) aNil)))))) S_law_0_4_0_a0 sNil)
abbrev S_law_0_4_1 : FS := (sAsg (eCall F_is_within (aCons (eV 6) (aCons (eV 7) aNil))) (gN 8))
abbrev S_law_0_4_2 : FS := (sAsg (eFz (nLc [11] (lSeq (eV 5)) (gN 11) (bAnd (bOf (eCall F__law_in (aCons (eV 6) (aCons (eV 11) aNil)))) (bNot (bOf (eCall F__law_in (aCons (eV 7) (aCons (eV 11) aNil)))))) (eV 11))) (gN 9))
abbrev S_law_0_4_3_a0 : FS := (sRet (eC (.bool false)))
abbrev S_law_0_4_3 : FS := (sIf (bOr (bNot (bOf (eUn (dIs "bool") (eV 8)))) (bOf (eOp dNe (eV 8) (eOp dEq (eV 9) (eFz (nLst lNil)))))) S_law_0_4_3_a0 sNil)
abbrev L_law_0_4 : FS := (sSeq S_law_0_4_0
    (sSeq S_law_0_4_1
    (sSeq S_law_0_4_2
    S_law_0_4_3)))
abbrev S_law_0_4 : FS := (sFor (lSeq (eFz (nLst (lCons (eTup (lCons (eV 3) (lCons (eV 4) lNil))) (lCons (eTup (lCons (eV 4) (lCons (eV 3) lNil))) (lCons (eTup (lCons (eV 3) (lCons (eV 3) lNil))) (lCons (eTup (lCons (eV 3) (lCons (eTup lNil) lNil))) (lCons (eTup (lCons (eV 3) (lCons (eCall F_rest (aCons (eV 3) aNil)) lNil))) lNil)))))))) (gTup 2 (gCons (gN 6) (gCons (gN 7) gNil))) L_law_0_4)
abbrev S_law_0_5 : FS := (sAsg (eCB gSum (lCons (eFz (nLc [12, 13] (lSeq (eV 3)) (gTup 2 (gCons (gN 12) (gCons (gN 13) gNil))) bYes (eOp dAdd (eOp dSub (eCall F__law_place (aCons (eV 13) aNil)) (eCall F__law_place (aCons (eV 12) aNil))) (eC (.int 1))))) lNil)) (gN 10))
abbrev S_law_0_6_a0 : FS := (sRet (eC (.bool false)))
abbrev S_law_0_6 : FS := (sIf (bOr (bNot (bOf (eCall F__law_whole (aCons (eCall F_count (aCons (eV 3) aNil)) aNil)))) (bOr (bOf (eOp dNe (eCall F_count (aCons (eV 3) aNil)) (eV 10))) (bOf (eOp dNe (eOp dAdd (eCall F_count (aCons (eV 3) aNil)) (eCall F_count (aCons (eCall F_rest (aCons (eV 3) aNil)) aNil))) (eOp dPow (eC (.int 10)) (eC (.int 6))))))) S_law_0_6_a0 sNil)
abbrev S_law_0_7_a0 : FS := (sRet (eC (.bool false)))
abbrev S_law_0_7 : FS := (sIf (bNot (bOf (eUn (dIs "bool") (eCall F_has (aCons (eV 3) (aCons (eTup (lCons (eC (.int 0)) (lCons (eC (.int 0)) (lCons (eC (.int 0)) lNil)))) aNil)))))) S_law_0_7_a0 sNil)
abbrev L_law_0 : FS := (sSeq S_law_0_0
    (sSeq S_law_0_1
    (sSeq S_law_0_2
    (sSeq S_law_0_3
    (sSeq S_law_0_4
    (sSeq S_law_0_5
    (sSeq S_law_0_6
    S_law_0_7)))))))
abbrev S_law_0 : FS := (sFor (lSeq (eOp dAdd (eFz (nLst (lCons (eC (.int 0)) lNil))) (eSl (eV 0) oNone (oSome (eC (.int 5)))))) (gN 1) L_law_0)
abbrev S_law_1 : FS := (sRet (eC (.bool true)))
abbrev s_law : Stmt := top 28
theorem sc_law : FnScope ["script", "cell", "deck", "one", "other", "places", "a", "b", "within", "crossing", "total", "place", "low", "high"] ["script"] (defScope s_law) := ⟨rfl, rfl, rfl, by decide +kernel, rfl, by decide +kernel, by decide +kernel⟩
def B_law : FS := (sSeq S_law_0
    S_law_1)
def F_law : FnS := callF 14 B_law
structure Txt (K : Fg) (mg : Str → Option Value) : Prop where
  n_any : mg "any" = none
  n_bool : mg "bool" = none
  n_int : mg "int" = none
  n_isinstance : mg "isinstance" = none
  n_len : mg "len" = none
  n_max : mg "max" = none
  n_min : mg "min" = none
  n_range : mg "range" = none
  n_set : mg "set" = none
  n_sorted : mg "sorted" = none
  n_sum : mg "sum" = none
  n_tuple : mg "tuple" = none
  n_zip : mg "zip" = none
  g_LAST : GlD K mg "LAST" k_LAST
  a_place_of : At K mg "place_of" s_place_of ["edition"]
  a_edition_at : At K mg "edition_at" s_edition_at ["place"]
  a_spans_of : At K mg "spans_of" s_spans_of ["one"]
  a_joined : At K mg "joined" s_joined ["spans"]
  a_both : At K mg "both" s_both ["one", "other"]
  a_either : At K mg "either" s_either ["one", "other"]
  a_rest : At K mg "rest" s_rest ["one"]
  a_has : At K mg "has" s_has ["one", "edition"]
  a_is_within : At K mg "is_within" s_is_within ["one", "other"]
  a_count : At K mg "count" s_count ["one"]
  a__law_deck : At K mg "_law_deck" s__law_deck ["cell", "turn"]
  a__law_pick : At K mg "_law_pick" s__law_pick ["deck", "many"]
  a__law_whole : At K mg "_law_whole" s__law_whole ["thing"]
  a__law_edition : At K mg "_law_edition" s__law_edition ["deck"]
  a__law_place : At K mg "_law_place" s__law_place ["edition"]
  a__law_at : At K mg "_law_at" s__law_at ["place"]
  a__law_joined : At K mg "_law_joined" s__law_joined ["spans"]
  a__law_span : At K mg "_law_span" s__law_span ["deck"]
  a__law_is_edition : At K mg "_law_is_edition" s__law_is_edition ["thing"]
  a__law_is_range : At K mg "_law_is_range" s__law_is_range ["thing"]
  a__law_in : At K mg "_law_in" s__law_in ["span", "place"]
  a__law_near : At K mg "_law_near" s__law_near ["spans"]
  a__law_many : At K mg "_law_many" s__law_many ["deck"]
  a__law_due_right : At K mg "_law_due_right" s__law_due_right ["one", "other", "places"]
  a_law : At K mg "law" s_law ["script"]
section
variable {P : Program} {w : World} {K : Fg} {mg : Str → Option Value} {base : Heap}
theorem ok_place_of (T : Txt K mg)  : Ok P w K mg base 1 "place_of" ["edition"] F_place_of :=
  mk_ok (k := 0) T.a_place_of sc_place_of fun f cdv A outer s H E hr => (b1 (sret (xop opAdd (xop opAdd (xop opMul (xix ixD (xv 0) xi) xi) (xop opMul (xix ixD (xv 0) xi) xi)) (xix ixD (xv 0) xi))))
theorem ok_edition_at (T : Txt K mg)  : Ok P w K mg base 1 "edition_at" ["place"] F_edition_at :=
  mk_ok (k := 0) T.a_edition_at sc_edition_at fun f cdv A outer s H E hr => (b1 (sret (xt (ac (xop opDiv (xv 0) xi) (ac (xop opMod (xop opDiv (xv 0) xi) xi) (ac (xop opMod (xv 0) xi) an))))))
theorem ok_spans_of (T : Txt K mg) (h_place_of : Ok P w K mg base 1 "place_of" ["edition"] F_place_of) : Ok P w K mg base 2 "spans_of" ["one"] F_spans_of :=
  mk_ok (k := 1) T.a_spans_of sc_spans_of fun f cdv A outer s H E hr => (b1 (sret (pe_fz (xlc [("low", 1), ("high", 2)] sc_spans_of.nd (iseq (xv 0)) (by kernel_rfl) (fun _ _ _ _ _ => (gt rfl (gsc (gn 1 sc_spans_of.nd) (gsc (gn 2 sc_spans_of.nd) gsn)))) (fun _ _ _ _ _ => tyes) (fun _ _ _ _ _ => (xt (ac (xc h_place_of (hr.mono (by decide)) (ac' (xv 1) an') (lc ln)) (ac (xc h_place_of (hr.mono (by decide)) (ac' (xv 2) an') (lc ln)) an))))))))
theorem ok_joined (T : Txt K mg) (h_edition_at : Ok P w K mg base 1 "edition_at" ["place"] F_edition_at) : Ok P w K mg base 2 "joined" ["spans"] F_joined :=
  mk_ok (k := 1) T.a_joined sc_joined fun f cdv A outer s H E hr => (bc (sown 1 sc_joined.nd (xl an))
    (bc (sfor (ws := [2, 3]) PassesOwn.never rfl (iseq (pe_fz (xcbN (cSortedN hr.units) T.n_sorted bt_sorted (ac (xv 0) an)))) (gt rfl (gsc (gn 2 sc_joined.nd) (gsc (gn 3 sc_joined.nd) gsn))) (b1 (sif (PW.pt (tand (tpkl 1 (opNe hr.units) (pv 1) (pe_fz (xl an))) (tand1 (tcmp (opLe hr.units) (xv 2) (xop opAdd (xix ixD (xoix 1 (pe_ix ix_list (pv 1) (xun unNeg xi) (fun _ _ => rfl))) xi) xi))))) (b1 (ssetL 1 (ps_asg (xt (ac (xix ixD (xoix 1 (pe_ix ix_list (pv 1) (xun unNeg xi) (fun _ _ => rfl))) xi) (ac (xcb (cMax rfl) T.n_max bt_max (ac (xix ixD (xoix 1 (pe_ix ix_list (pv 1) (xun unNeg xi) (fun _ _ => rfl))) xi) (ac (xv 3) an))) an))) (pg_sub (pv 1) (xun unNeg xi) set_list)))) (b1 (sif (tcmp (opLe hr.units) (xv 2) (xv 3)) (b1 (sapp 1 (ps_expr (pe_bm PySem.F.plainAttrs_list PySem.F.slot_list_append PySem.F.type_list_append mt_append (pv 1) (pa_cons (xt (ac (xv 2) (ac (xv 3) an))) pa_nil))))) bn)))))
    (b1 (sret (xct cTuple T.n_tuple bt_tuple (ac (pe_fz (xlc [("low", 2), ("high", 3)] sc_joined.nd (iseq (xvf 1)) (by kernel_rfl) (fun _ _ _ _ _ => (gt rfl (gsc (gn 2 sc_joined.nd) (gsc (gn 3 sc_joined.nd) gsn)))) (fun _ _ _ _ _ => tyes) (fun _ _ _ _ _ => (xt (ac (xc h_edition_at (hr.mono (by decide)) (ac' (xv 2) an') (lc ln)) (ac (xc h_edition_at (hr.mono (by decide)) (ac' (xv 3) an') (lc ln)) an)))))) an))))))
theorem ok_both (T : Txt K mg) (h_joined : Ok P w K mg base 2 "joined" ["spans"] F_joined) (h_spans_of : Ok P w K mg base 2 "spans_of" ["one"] F_spans_of) : Ok P w K mg base 3 "both" ["one", "other"] F_both :=
  mk_ok (k := 2) T.a_both sc_both fun f cdv A outer s H E hr => (bc (sfz (fun I => I.slen) (xsetLc2 2 [("a", 3), ("b", 4)] sc_both.nd (iseq (xc h_spans_of (hr.mono (by decide)) (ac' (xv 0) an') (lc ln))) (by kernel_rfl) (by decide) (fun _ _ _ _ _ => (gn 3 sc_both.nd)) (fun _ _ _ _ _ => tyes) (fun _ _ _ _ _ => (iseq (xc h_spans_of (hr.mono (by decide)) (ac' (xv 1) an') (lc ln)))) (fun _ _ _ _ _ => (gn 4 sc_both.nd)) (fun _ _ _ _ _ => tyes) (fun _ _ _ _ _ => (xt (ac (xcb (cMax rfl) T.n_max bt_max (ac (xix ixD (xv 3) xi) (ac (xix ixD (xv 4) xi) an))) (ac (xcb (cMin rfl) T.n_min bt_min (ac (xix ixD (xv 3) xi) (ac (xix ixD (xv 4) xi) an))) an)))) rfl))
    (b1 (sret (xc h_joined (hr.mono (by decide)) (ac' (pe_fz (xlc [("span", 5)] sc_both.nd (iseq (xv 2)) (by kernel_rfl) (fun _ _ _ _ _ => (gn 5 sc_both.nd)) (fun _ _ _ _ _ => (pts_one (tcmp (opLe hr.units) (xix ixD (xv 5) xi) (xix ixD (xv 5) xi)))) (fun _ _ _ _ _ => (xv 5)))) an') (lc ln)))))
theorem ok_either (T : Txt K mg) (h_joined : Ok P w K mg base 2 "joined" ["spans"] F_joined) (h_spans_of : Ok P w K mg base 2 "spans_of" ["one"] F_spans_of) : Ok P w K mg base 3 "either" ["one", "other"] F_either :=
  mk_ok (k := 2) T.a_either sc_either fun f cdv A outer s H E hr => (b1 (sret (xc h_joined (hr.mono (by decide)) (ac' (xop opAdd (xc h_spans_of (hr.mono (by decide)) (ac' (xv 0) an') (lc ln)) (xc h_spans_of (hr.mono (by decide)) (ac' (xv 1) an') (lc ln))) an') (lc ln))))
theorem ok_rest (T : Txt K mg) (h_spans_of : Ok P w K mg base 2 "spans_of" ["one"] F_spans_of) (h_joined : Ok P w K mg base 2 "joined" ["spans"] F_joined) (h_place_of : Ok P w K mg base 1 "place_of" ["edition"] F_place_of) : Ok P w K mg base 3 "rest" ["one"] F_rest :=
  mk_ok (k := 2) T.a_rest sc_rest fun f cdv A outer s H E hr => (bc (sown 1 sc_rest.nd (xl an))
    (bc (sset 2 sc_rest.nd xi)
    (bc (sfor (ws := [3, 4]) PassesOwn.never rfl (iseq (xc h_spans_of (hr.mono (by decide)) (ac' (xv 0) an') (lc ln))) (gt rfl (gsc (gn 3 sc_rest.nd) (gsc (gn 4 sc_rest.nd) gsn))) (bc (sapp 1 (ps_expr (pe_bm PySem.F.plainAttrs_list PySem.F.slot_list_append PySem.F.type_list_append mt_append (pv 1) (pa_cons (xt (ac (xv 2) (ac (xop opSub (xv 3) xi) an))) pa_nil))))
    (b1 (sset 2 sc_rest.nd (xop opAdd (xv 4) xi)))))
    (bc (sapp 1 (ps_expr (pe_bm PySem.F.plainAttrs_list PySem.F.slot_list_append PySem.F.type_list_append mt_append (pv 1) (pa_cons (xt (ac (xv 2) (ac (xc h_place_of (hr.mono (by decide)) (ac' (xg T.g_LAST) an') (lc ln)) an))) pa_nil))))
    (b1 (sret (xc h_joined (hr.mono (by decide)) (ac' (pe_fz (xlc [("span", 5)] sc_rest.nd (iseq (xvf 1)) (by kernel_rfl) (fun _ _ _ _ _ => (gn 5 sc_rest.nd)) (fun _ _ _ _ _ => (pts_one (tcmp (opLe hr.units) (xix ixD (xv 5) xi) (xix ixD (xv 5) xi)))) (fun _ _ _ _ _ => (xv 5)))) an') (lc ln))))))))
theorem ok_has (T : Txt K mg)  : Ok P w K mg base 1 "has" ["one", "edition"] F_has :=
  mk_ok (k := 0) T.a_has sc_has fun f cdv A outer s H E hr => (b1 (sret (xcb (cAny rfl) T.n_any bt_any (ac (pe_fz (xlc [("low", 2), ("high", 3)] sc_has.nd (iseq (xv 0)) (by kernel_rfl) (fun _ _ _ _ _ => (gt rfl (gsc (gn 2 sc_has.nd) (gsc (gn 3 sc_has.nd) gsn)))) (fun _ _ _ _ _ => tyes) (fun _ _ _ _ _ => (xch (opLe hr.units) (opLe hr.units) (xv 2) (xv 1) (xv 3))))) an))))
theorem ok_is_within (T : Txt K mg) (h_both : Ok P w K mg base 3 "both" ["one", "other"] F_both) : Ok P w K mg base 4 "is_within" ["one", "other"] F_is_within :=
  mk_ok (k := 3) T.a_is_within sc_is_within fun f cdv A outer s H E hr => (b1 (sret (xcmp (opEq hr.units) (xc h_both (hr.mono (by decide)) (ac' (xv 0) (ac' (xv 1) an')) (lc (lc ln))) (xv 0))))
theorem ok_count (T : Txt K mg) (h_spans_of : Ok P w K mg base 2 "spans_of" ["one"] F_spans_of) : Ok P w K mg base 3 "count" ["one"] F_count :=
  mk_ok (k := 2) T.a_count sc_count fun f cdv A outer s H E hr => (b1 (sret (xcb (cSum rfl) T.n_sum bt_sum (ac (pe_fz (xlc [("low", 1), ("high", 2)] sc_count.nd (iseq (xc h_spans_of (hr.mono (by decide)) (ac' (xv 0) an') (lc ln))) (by kernel_rfl) (fun _ _ _ _ _ => (gt rfl (gsc (gn 1 sc_count.nd) (gsc (gn 2 sc_count.nd) gsn)))) (fun _ _ _ _ _ => tyes) (fun _ _ _ _ _ => (xop opAdd (xop opSub (xv 2) (xv 1)) xi)))) an))))
theorem ok__law_deck (T : Txt K mg)  : Ok P w K mg base 1 "_law_deck" ["cell", "turn"] F__law_deck :=
  mk_ok (k := 0) T.a__law_deck sc__law_deck fun f cdv A outer s H E hr => (bc (sif (tcmp (opGe hr.units) (xv 0) (xop opPow xi xi)) (b1 (sretN (xl (ac (xop opSub (xv 0) (xop opPow xi xi)) (ac (xop opMod (xv 0) xi) (ac (xv 1) an)))))) bn)
    (b1 (sretN (xl (ac xi (ac (xop opMod (xv 0) xi) (ac (xv 1) an)))))))
theorem ok__law_pick (T : Txt K mg)  : Ok P w K mg base 1 "_law_pick" ["deck", "many"] F__law_pick :=
  mk_ok (k := 0) T.a__law_pick sc__law_pick fun f cdv A outer s H E hr => (bc (sif (tcmp (opGt hr.units) (xoix 0 (pe_ix ix_list (pv 0) xi (fun _ _ => rfl))) xi) (bc (sset 2 sc__law_pick.nd (xop opMod (xoix 0 (pe_ix ix_list (pv 0) xi (fun _ _ => rfl))) (xv 1)))
    (bc (ssetL 0 (ps_asg (xop opDiv (xoix 0 (pe_ix ix_list (pv 0) xi (fun _ _ => rfl))) (xv 1)) (pg_sub (pv 0) xi set_list)))
    (b1 (sret (xv 2))))) bn)
    (bc (ssetL 0 (ps_asg (xop opAdd (xoix 0 (pe_ix ix_list (pv 0) xi (fun _ _ => rfl))) xi) (pg_sub (pv 0) xi set_list)))
    (bc (sset 3 sc__law_pick.nd (xop opMod (xop opPow (xop opAdd (xoix 0 (pe_ix ix_list (pv 0) xi (fun _ _ => rfl))) (xop opMul xi (xoix 0 (pe_ix ix_list (pv 0) xi (fun _ _ => rfl))))) xi) xi))
    (bc (sset 2 sc__law_pick.nd (xop opDiv (xop opMod (xop opPow (xop opAdd (xv 3) (xop opMul xi (xoix 0 (pe_ix ix_list (pv 0) xi (fun _ _ => rfl))))) xi) xi) xi))
    (bc (sif (tcmp (opGt hr.units) (xv 1) xi) (b1 (sret (xop opMod (xop opAdd (xop opMul (xv 2) xi) (xv 3)) (xv 1)))) bn)
    (b1 (sret (xop opMod (xv 2) (xv 1)))))))))
theorem ok__law_whole (T : Txt K mg)  : Ok P w K mg base 1 "_law_whole" ["thing"] F__law_whole :=
  mk_ok (k := 0) T.a__law_whole sc__law_whole fun f cdv A outer s H E hr => (b1 (sret (xand (xis (.inl rfl) (xv 0) T.n_isinstance T.n_int bt_int) (xone (xnot (xis (.inr (.inl rfl)) (xv 0) T.n_isinstance T.n_bool bt_bool))))))
theorem ok__law_edition (T : Txt K mg) (h__law_pick : Ok P w K mg base 1 "_law_pick" ["deck", "many"] F__law_pick) : Ok P w K mg base 2 "_law_edition" ["deck"] F__law_edition :=
  mk_ok (k := 1) T.a__law_edition sc__law_edition fun f cdv A outer s H E hr => (bc (sset 1 sc__law_edition.nd (xc h__law_pick (hr.mono (by decide)) (ar 0 (ac' xi an')) (lr (lc ln))))
    (bc (sif (tcmp (opLt hr.units) (xv 1) xi) (b1 (sret (xt (ac (xc h__law_pick (hr.mono (by decide)) (ar 0 (ac' xi an')) (lr (lc ln))) (ac (xc h__law_pick (hr.mono (by decide)) (ar 0 (ac' xi an')) (lr (lc ln))) (ac xi an)))))) bn)
    (bc (sset 2 sc__law_edition.nd (pe_fz (xl (ac xi (ac xi (ac xi (ac (xc h__law_pick (hr.mono (by decide)) (ar 0 (ac' xi an')) (lr (lc ln))) an)))))))
    (b1 (sret (xt (ac (xix ixD (xv 2) (xc h__law_pick (hr.mono (by decide)) (ar 0 (ac' xi an')) (lr (lc ln)))) (ac (xix ixD (xv 2) (xc h__law_pick (hr.mono (by decide)) (ar 0 (ac' xi an')) (lr (lc ln)))) (ac (xix ixD (xv 2) (xc h__law_pick (hr.mono (by decide)) (ar 0 (ac' xi an')) (lr (lc ln)))) an)))))))))
theorem ok__law_place (T : Txt K mg)  : Ok P w K mg base 1 "_law_place" ["edition"] F__law_place :=
  mk_ok (k := 0) T.a__law_place sc__law_place fun f cdv A outer s H E hr => (b1 (sret (xop opAdd (xop opAdd (xop opMul (xix ixD (xv 0) xi) xi) (xop opMul (xix ixD (xv 0) xi) xi)) (xix ixD (xv 0) xi))))
theorem ok__law_at (T : Txt K mg)  : Ok P w K mg base 1 "_law_at" ["place"] F__law_at :=
  mk_ok (k := 0) T.a__law_at sc__law_at fun f cdv A outer s H E hr => (b1 (sret (xt (ac (xop opDiv (xv 0) xi) (ac (xop opMod (xop opDiv (xv 0) xi) xi) (ac (xop opMod (xv 0) xi) an))))))
theorem ok__law_joined (T : Txt K mg) (h__law_at : Ok P w K mg base 1 "_law_at" ["place"] F__law_at) : Ok P w K mg base 2 "_law_joined" ["spans"] F__law_joined :=
  mk_ok (k := 1) T.a__law_joined sc__law_joined fun f cdv A outer s H E hr => (bc (sown 1 sc__law_joined.nd (xl an))
    (bc (sfor (ws := [2, 3]) PassesOwn.never rfl (iseq (pe_fz (xcbN (cSortedN hr.units) T.n_sorted bt_sorted (ac (xv 0) an)))) (gt rfl (gsc (gn 2 sc__law_joined.nd) (gsc (gn 3 sc__law_joined.nd) gsn))) (b1 (sif (PW.pt (tand (tpkl 1 (opNe hr.units) (pv 1) (pe_fz (xl an))) (tand1 (tcmp (opLe hr.units) (xv 2) (xop opAdd (xix ixD (xoix 1 (pe_ix ix_list (pv 1) (xun unNeg xi) (fun _ _ => rfl))) xi) xi))))) (b1 (ssetL 1 (ps_asg (xt (ac (xix ixD (xoix 1 (pe_ix ix_list (pv 1) (xun unNeg xi) (fun _ _ => rfl))) xi) (ac (xcb (cMax rfl) T.n_max bt_max (ac (xv 3) (ac (xix ixD (xoix 1 (pe_ix ix_list (pv 1) (xun unNeg xi) (fun _ _ => rfl))) xi) an))) an))) (pg_sub (pv 1) (xun unNeg xi) set_list)))) (b1 (sapp 1 (ps_expr (pe_bm PySem.F.plainAttrs_list PySem.F.slot_list_append PySem.F.type_list_append mt_append (pv 1) (pa_cons (xt (ac (xv 2) (ac (xv 3) an))) pa_nil))))))))
    (b1 (sret (xct cTuple T.n_tuple bt_tuple (ac (pe_fz (xlc [("low", 2), ("high", 3)] sc__law_joined.nd (iseq (xvf 1)) (by kernel_rfl) (fun _ _ _ _ _ => (gt rfl (gsc (gn 2 sc__law_joined.nd) (gsc (gn 3 sc__law_joined.nd) gsn)))) (fun _ _ _ _ _ => tyes) (fun _ _ _ _ _ => (xt (ac (xc h__law_at (hr.mono (by decide)) (ac' (xv 2) an') (lc ln)) (ac (xc h__law_at (hr.mono (by decide)) (ac' (xv 3) an') (lc ln)) an)))))) an))))))
theorem ok__law_span (T : Txt K mg) (h__law_pick : Ok P w K mg base 1 "_law_pick" ["deck", "many"] F__law_pick) (h__law_joined : Ok P w K mg base 2 "_law_joined" ["spans"] F__law_joined) (h__law_place : Ok P w K mg base 1 "_law_place" ["edition"] F__law_place) (h__law_edition : Ok P w K mg base 2 "_law_edition" ["deck"] F__law_edition) (h__law_at : Ok P w K mg base 1 "_law_at" ["place"] F__law_at) : Ok P w K mg base 3 "_law_span" ["deck"] F__law_span :=
  mk_ok (k := 2) T.a__law_span sc__law_span fun f cdv A outer s H E hr => (bc (sset 1 sc__law_span.nd (xc h__law_pick (hr.mono (by decide)) (ar 0 (ac' xi an')) (lr (lc ln))))
    (bc (sasgL (ws := [2, 3]) (ps_asg (pe_fz (xcbN (cSortedN hr.units) T.n_sorted bt_sorted (ac (pe_fz (xl (ac (xc h__law_place (hr.mono (by decide)) (ac' (xc h__law_edition (hr.mono (by decide)) (ar 0 an') (lr ln)) an') (lc ln)) (ac (xc h__law_place (hr.mono (by decide)) (ac' (xc h__law_edition (hr.mono (by decide)) (ar 0 an') (lr ln)) an') (lc ln)) an)))) an))) (pg_lst rfl (gsc (gn 2 sc__law_span.nd) (gsc (gn 3 sc__law_span.nd) gsn)))))
    (bc (sif (tcmp (opLt hr.units) (xv 1) xi) (b1 (sret (xt (ac (xt (ac (xt (ac xi (ac xi (ac xi an)))) (ac (xt (ac xi (ac xi (ac xi an)))) an))) an)))) bn)
    (bc (sif (tcmp (opEq hr.units) (xv 1) xi) (b1 (sret (xt (ac (xt (ac (xc h__law_at (hr.mono (by decide)) (ac' (xv 2) an') (lc ln)) (ac (xt (ac xi (ac xi (ac xi an)))) an))) an)))) bn)
    (bc (sif (tcmp (opEq hr.units) (xv 1) xi) (b1 (sret (xt (ac (xt (ac (xt (ac xi (ac xi (ac xi an)))) (ac (xc h__law_at (hr.mono (by decide)) (ac' (xv 3) an') (lc ln)) an))) an)))) bn)
    (bc (sif (tcmp (opLt hr.units) (xv 1) xi) (b1 (sret (xt (ac (xt (ac (xc h__law_at (hr.mono (by decide)) (ac' (xv 2) an') (lc ln)) (ac (xc h__law_at (hr.mono (by decide)) (ac' (xv 3) an') (lc ln)) an))) an)))) bn)
    (bc (sif (tcmp (opEq hr.units) (xv 1) xi) (bc (sset 4 sc__law_span.nd (xc h__law_place (hr.mono (by decide)) (ac' (xc h__law_edition (hr.mono (by decide)) (ar 0 an') (lr ln)) an') (lc ln)))
    (b1 (sret (xc h__law_joined (hr.mono (by decide)) (ac' (pe_fz (xl (ac (xt (ac (xv 2) (ac (xv 2) an))) (ac (xt (ac (xv 3) (ac (xv 3) an))) (ac (xt (ac (xv 4) (ac (xcb (cMin rfl) T.n_min bt_min (ac xi (ac (xop opAdd (xv 4) (xc h__law_pick (hr.mono (by decide)) (ar 0 (ac' xi an')) (lr (lc ln)))) an))) an))) an))))) an') (lc ln))))) bn)
    (b1 (sret (xc h__law_joined (hr.mono (by decide)) (ac' (xop opMul (pe_fz (xl (ac (xt (ac (xv 2) (ac (xv 3) an))) an))) (xc h__law_pick (hr.mono (by decide)) (ar 0 (ac' xi an')) (lr (lc ln)))) an') (lc ln)))))))))))
theorem ok__law_is_edition (T : Txt K mg) (h__law_whole : Ok P w K mg base 1 "_law_whole" ["thing"] F__law_whole) : Ok P w K mg base 2 "_law_is_edition" ["thing"] F__law_is_edition :=
  mk_ok (k := 1) T.a__law_is_edition sc__law_is_edition fun f cdv A outer s H E hr => (bc (sif (PW.pt (tor (tnot (tv (xis (.inr (.inr (.inr (.inr rfl)))) (xv 0) T.n_isinstance T.n_tuple bt_tuple))) (tor1 (tcmp (opNe hr.units) (xcb cLen T.n_len bt_len (ac (xv 0) an)) xi)))) (b1 (sret xb)) bn)
    (b1 (sret (xcmp (opEq hr.units) (pe_fz (xlc [("part", 1)] sc__law_is_edition.nd (iseq (xv 0)) (by kernel_rfl) (fun _ _ _ _ _ => (gn 1 sc__law_is_edition.nd)) (fun _ _ _ _ _ => (pts_one (PW.pt (tor (tnot (tv (xc h__law_whole (hr.mono (by decide)) (ac' (xv 1) an') (lc ln)))) (tor1 (tnot (tch (opLe hr.units) (opLe hr.units) xi (xv 1) xi))))))) (fun _ _ _ _ _ => (xv 1)))) (pe_fz (xl an))))))
theorem ok__law_is_range (T : Txt K mg) (h__law_place : Ok P w K mg base 1 "_law_place" ["edition"] F__law_place) (h__law_is_edition : Ok P w K mg base 2 "_law_is_edition" ["thing"] F__law_is_edition) : Ok P w K mg base 3 "_law_is_range" ["thing"] F__law_is_range :=
  mk_ok (k := 2) T.a__law_is_range sc__law_is_range fun f cdv A outer s H E hr => (bc (sif (tnot (tv (xis (.inr (.inr (.inr (.inr rfl)))) (xv 0) T.n_isinstance T.n_tuple bt_tuple))) (b1 (sret xb)) bn)
    (bc (sset 1 sc__law_is_range.nd (xun unNeg xi))
    (bc (sfor (ws := [2]) PassesOwn.never rfl (iseq (xv 0)) (gn 2 sc__law_is_range.nd) (bc (sif (PW.pt (tor (tnot (tv (xis (.inr (.inr (.inr (.inr rfl)))) (xv 2) T.n_isinstance T.n_tuple bt_tuple))) (tor1 (tcmp (opNe hr.units) (xcb cLen T.n_len bt_len (ac (xv 2) an)) xi)))) (b1 (sret xb)) bn)
    (bc (sif (PW.pt (tor (tnot (tv (xc h__law_is_edition (hr.mono (by decide)) (ac' (xix ixD (xv 2) xi) an') (lc ln)))) (tor (tnot (tv (xc h__law_is_edition (hr.mono (by decide)) (ac' (xix ixD (xv 2) xi) an') (lc ln)))) (tor1 (tcmp (opGt hr.units) (xix ixD (xv 2) xi) (xix ixD (xv 2) xi)))))) (b1 (sret xb)) bn)
    (bc (sif (tcmp (opLt hr.units) (xc h__law_place (hr.mono (by decide)) (ac' (xix ixD (xv 2) xi) an') (lc ln)) (xop opAdd (xv 1) xi)) (b1 (sret xb)) bn)
    (b1 (sset 1 sc__law_is_range.nd (xc h__law_place (hr.mono (by decide)) (ac' (xix ixD (xv 2) xi) an') (lc ln))))))))
    (b1 (sret xb)))))
theorem ok__law_in (T : Txt K mg) (h__law_place : Ok P w K mg base 1 "_law_place" ["edition"] F__law_place) : Ok P w K mg base 2 "_law_in" ["span", "place"] F__law_in :=
  mk_ok (k := 1) T.a__law_in sc__law_in fun f cdv A outer s H E hr => (b1 (sret (xcmp (opNe hr.units) (pe_fz (xlc [("pair", 2)] sc__law_in.nd (iseq (xv 0)) (by kernel_rfl) (fun _ _ _ _ _ => (gn 2 sc__law_in.nd)) (fun _ _ _ _ _ => (pts_one (tch (opLe hr.units) (opLe hr.units) (xc h__law_place (hr.mono (by decide)) (ac' (xix ixD (xv 2) xi) an') (lc ln)) (xv 1) (xc h__law_place (hr.mono (by decide)) (ac' (xix ixD (xv 2) xi) an') (lc ln))))) (fun _ _ _ _ _ => (xv 2)))) (pe_fz (xl an)))))
theorem ok__law_near (T : Txt K mg) (h__law_place : Ok P w K mg base 1 "_law_place" ["edition"] F__law_place) : Ok P w K mg base 2 "_law_near" ["spans"] F__law_near :=
  mk_ok (k := 1) T.a__law_near sc__law_near fun f cdv A outer s H E hr => (bc (sset 1 sc__law_near.nd (pe_fz (xl (ac xi (ac xi an)))))
    (bc (sfor (ws := [2]) PassesOwn.never rfl (iseq (xv 0)) (gn 2 sc__law_near.nd) (b1 (sfor (ws := [3, 4]) PassesOwn.never rfl (iseq (xv 2)) (gt rfl (gsc (gn 3 sc__law_near.nd) (gsc (gn 4 sc__law_near.nd) gsn))) (b1 (sset 1 sc__law_near.nd (xop opAdd (xop opAdd (xv 1) (pe_fz (xlc [("k", 8)] sc__law_near.nd (iseq (xt (ac (xun unNeg xi) (ac xi (ac xi an))))) (by kernel_rfl) (fun _ _ _ _ _ => (gn 8 sc__law_near.nd)) (fun _ _ _ _ _ => tyes) (fun _ _ _ _ _ => (xop opAdd (xc h__law_place (hr.mono (by decide)) (ac' (xv 3) an') (lc ln)) (xv 8)))))) (pe_fz (xlc [("k", 8)] sc__law_near.nd (iseq (xt (ac (xun unNeg xi) (ac xi (ac xi an))))) (by kernel_rfl) (fun _ _ _ _ _ => (gn 8 sc__law_near.nd)) (fun _ _ _ _ _ => tyes) (fun _ _ _ _ _ => (xop opAdd (xc h__law_place (hr.mono (by decide)) (ac' (xv 4) an') (lc ln)) (xv 8)))))))))))
    (bc (sset 1 sc__law_near.nd (pe_fz (xss rfl T.n_sorted T.n_set (pe_fz (xlc [("place", 7)] sc__law_near.nd (iseq (xv 1)) (by kernel_rfl) (fun _ _ _ _ _ => (gn 7 sc__law_near.nd)) (fun _ _ _ _ _ => (pts_one (tch (opLe hr.units) (opLe hr.units) xi (xv 7) xi))) (fun _ _ _ _ _ => (xv 7)))))))
    (b1 (sret (xop opAdd (xv 1) (pe_fz (xlc [("one", 5), ("other", 6)] sc__law_near.nd (izip T.n_zip (ac (xv 1) (ac (xsl (xv 1) (os xi) on) an))) (by kernel_rfl) (fun _ _ _ _ _ => (gt rfl (gsc (gn 5 sc__law_near.nd) (gsc (gn 6 sc__law_near.nd) gsn)))) (fun _ _ _ _ _ => tyes) (fun _ _ _ _ _ => (xop opDiv (xop opAdd (xv 5) (xv 6)) xi))))))))))
theorem ok__law_many (T : Txt K mg) (h__law_joined : Ok P w K mg base 2 "_law_joined" ["spans"] F__law_joined) (h__law_pick : Ok P w K mg base 1 "_law_pick" ["deck", "many"] F__law_pick) : Ok P w K mg base 3 "_law_many" ["deck"] F__law_many :=
  mk_ok (k := 2) T.a__law_many sc__law_many fun f cdv A outer s H E hr => (bc (sown 1 sc__law_many.nd (xl an))
    (bc (sfor (ws := [2]) PassesOwn.never rfl (irng1 T.n_range (ac (xc h__law_pick (hr.mono (by decide)) (ar 0 (ac' xi an')) (lr (lc ln))) an)) (gn 2 sc__law_many.nd) (bc (sset 3 sc__law_many.nd (xix ixD (pe_fz (xl (ac (xc h__law_pick (hr.mono (by decide)) (ar 0 (ac' xi an')) (lr (lc ln))) (ac (xop opAdd xi (xc h__law_pick (hr.mono (by decide)) (ar 0 (ac' xi an')) (lr (lc ln)))) (ac (xc h__law_pick (hr.mono (by decide)) (ar 0 (ac' xi an')) (lr (lc ln))) an))))) (xc h__law_pick (hr.mono (by decide)) (ar 0 (ac' xi an')) (lr (lc ln)))))
    (b1 (sapp 1 (ps_expr (pe_bm PySem.F.plainAttrs_list PySem.F.slot_list_append PySem.F.type_list_append mt_append (pv 1) (pa_cons (xt (ac (xv 3) (ac (xop opAdd (xv 3) (xc h__law_pick (hr.mono (by decide)) (ar 0 (ac' xi an')) (lr (lc ln)))) an))) pa_nil)))))))
    (b1 (sret (xc h__law_joined (hr.mono (by decide)) (ac' (xvf 1) an') (lc ln))))))
theorem ok__law_due_right (T : Txt K mg) (h_both : Ok P w K mg base 3 "both" ["one", "other"] F_both) (h_either : Ok P w K mg base 3 "either" ["one", "other"] F_either) (h_rest : Ok P w K mg base 3 "rest" ["one"] F_rest) (h__law_in : Ok P w K mg base 2 "_law_in" ["span", "place"] F__law_in) (h_has : Ok P w K mg base 1 "has" ["one", "edition"] F_has) (h__law_is_range : Ok P w K mg base 3 "_law_is_range" ["thing"] F__law_is_range) (h__law_at : Ok P w K mg base 1 "_law_at" ["place"] F__law_at) : Ok P w K mg base 4 "_law_due_right" ["one", "other", "places"] F__law_due_right :=
  mk_ok (k := 3) T.a__law_due_right sc__law_due_right fun f cdv A outer s H E hr => (bc (spar3 (ps_par3 rfl sc__law_due_right.nd rfl rfl rfl (by decide) (by decide) (by decide) rfl rfl rfl (ac (xc h_both (hr.mono (by decide)) (ac' (xv 0) (ac' (xv 1) an')) (lc (lc ln))) (ac (xc h_either (hr.mono (by decide)) (ac' (xv 0) (ac' (xv 1) an')) (lc (lc ln))) (ac (xc h_rest (hr.mono (by decide)) (ac' (xv 0) an') (lc ln)) an))) (by rfl)))
    (bc (sif (tcmp (opNe hr.units) (pe_fz (xlc [("span", 9)] sc__law_due_right.nd (iseq (xt (ac (xv 3) (ac (xv 4) (ac (xv 5) an))))) (by kernel_rfl) (fun _ _ _ _ _ => (gn 9 sc__law_due_right.nd)) (fun _ _ _ _ _ => (pts_one (tnot (tv (xc h__law_is_range (hr.mono (by decide)) (ac' (xv 9) an') (lc ln)))))) (fun _ _ _ _ _ => (xv 9)))) (pe_fz (xl an))) (b1 (sret xb)) bn)
    (bc (sfor (ws := [6]) PassesOwn.never rfl (iseq (xv 2)) (gn 6 sc__law_due_right.nd) (bc (spar (ps_par rfl sc__law_due_right.nd rfl rfl (by decide) rfl rfl (ac (xc h__law_in (hr.mono (by decide)) (ac' (xv 0) (ac' (xv 6) an')) (lc (lc ln))) (ac (xc h__law_in (hr.mono (by decide)) (ac' (xv 1) (ac' (xv 6) an')) (lc (lc ln))) an)) (by rfl)))
    (bc (sif (PW.pt (tor (tcmp (opNe hr.units) (xc h_has (hr.mono (by decide)) (ac' (xv 0) (ac' (xc h__law_at (hr.mono (by decide)) (ac' (xv 6) an') (lc ln)) an')) (lc (lc ln))) (xv 7)) (tor (tcmp (opNe hr.units) (xc h__law_in (hr.mono (by decide)) (ac' (xv 3) (ac' (xv 6) an')) (lc (lc ln))) (xand (xv 7) (xone (xv 8)))) (tor1 (tcmp (opNe hr.units) (xc h__law_in (hr.mono (by decide)) (ac' (xv 4) (ac' (xv 6) an')) (lc (lc ln))) (xor (xv 7) (xone (xv 8)))))))) (b1 (sret xb)) bn)
    (b1 (sif (tcmp (opEq hr.units) (xc h__law_in (hr.mono (by decide)) (ac' (xv 5) (ac' (xv 6) an')) (lc (lc ln))) (xv 7)) (b1 (sret xb)) bn)))))
    (b1 (sret xb)))))
theorem ok_law (T : Txt K mg) (h__law_deck : Ok P w K mg base 1 "_law_deck" ["cell", "turn"] F__law_deck) (h__law_near : Ok P w K mg base 2 "_law_near" ["spans"] F__law_near) (h__law_pick : Ok P w K mg base 1 "_law_pick" ["deck", "many"] F__law_pick) (h_is_within : Ok P w K mg base 4 "is_within" ["one", "other"] F_is_within) (h__law_span : Ok P w K mg base 3 "_law_span" ["deck"] F__law_span) (h__law_many : Ok P w K mg base 3 "_law_many" ["deck"] F__law_many) (h_rest : Ok P w K mg base 3 "rest" ["one"] F_rest) (h__law_due_right : Ok P w K mg base 4 "_law_due_right" ["one", "other", "places"] F__law_due_right) (h__law_whole : Ok P w K mg base 1 "_law_whole" ["thing"] F__law_whole) (h_count : Ok P w K mg base 3 "count" ["one"] F_count) (h_has : Ok P w K mg base 1 "has" ["one", "edition"] F_has) (h__law_in : Ok P w K mg base 2 "_law_in" ["span", "place"] F__law_in) (h__law_place : Ok P w K mg base 1 "_law_place" ["edition"] F__law_place) : Ok P w K mg base 5 "law" ["script"] F_law :=
  mk_ok (k := 4) T.a_law sc_law fun f cdv A outer s H E hr => (bc (sfor (ws := [1]) PassesOwn.never rfl (iseq (xop opAdd (pe_fz (xl (ac xi an))) (xsl (xv 0) on (os xi)))) (gn 1 sc_law.nd) (bc (sown 2 sc_law.nd (xcn h__law_deck (hr.mono (by decide)) (ac' (xv 1) (ac' xi an')) (lc (lc ln))))
    (bc (sset 3 sc_law.nd (xix ixD (pe_fz (xl (ac (xc h__law_span (hr.mono (by decide)) (ar 2 an') (lr ln)) (ac (xc h__law_many (hr.mono (by decide)) (ar 2 an') (lr ln)) an)))) (xc h__law_pick (hr.mono (by decide)) (ar 2 (ac' xi an')) (lr (lc ln)))))
    (bc (sset 4 sc_law.nd (xix ixD (pe_fz (xl (ac (xc h__law_span (hr.mono (by decide)) (ar 2 an') (lr ln)) (ac (xc h__law_many (hr.mono (by decide)) (ar 2 an') (lr ln)) (ac (xv 3) an))))) (xc h__law_pick (hr.mono (by decide)) (ar 2 (ac' xi an')) (lr (lc ln)))))
    (bc (sset 5 sc_law.nd (xc h__law_near (hr.mono (by decide)) (ac' (pe_fz (xl (ac (xv 3) (ac (xv 4) an)))) an') (lc ln)))
    (bc (sfor (ws := [6, 7]) PassesOwn.never rfl (iseq (pe_fz (xl (ac (xt (ac (xv 3) (ac (xv 4) an))) (ac (xt (ac (xv 4) (ac (xv 3) an))) (ac (xt (ac (xv 3) (ac (xv 3) an))) (ac (xt (ac (xv 3) (ac (xt an) an))) (ac (xt (ac (xv 3) (ac (xc h_rest (hr.mono (by decide)) (ac' (xv 3) an') (lc ln)) an))) an)))))))) (gt rfl (gsc (gn 6 sc_law.nd) (gsc (gn 7 sc_law.nd) gsn))) (bc (sif (tnot (tv (xc h__law_due_right (hr.mono (by decide)) (ac' (xv 6) (ac' (xv 7) (ac' (xv 5) an'))) (lc (lc (lc ln)))))) (b1 (sret xb)) bn)
    (bc (sset 8 sc_law.nd (xc h_is_within (hr.mono (by decide)) (ac' (xv 6) (ac' (xv 7) an')) (lc (lc ln))))
    (bc (sfz (fun I => I.slen) (xsetLc 9 [("place", 11)] sc_law.nd (iseq (xv 5)) (by kernel_rfl) (fun _ _ _ _ _ => (gn 11 sc_law.nd)) (fun _ _ _ _ _ => (pts_one (PW.pt (tand (tv (xc h__law_in (hr.mono (by decide)) (ac' (xv 6) (ac' (xv 11) an')) (lc (lc ln)))) (tand1 (tnot (tv (xc h__law_in (hr.mono (by decide)) (ac' (xv 7) (ac' (xv 11) an')) (lc (lc ln)))))))))) (fun _ _ _ _ _ => (xv 11)) rfl))
    (b1 (sif (PW.pt (tor (tnot (tv (xis (.inr (.inl rfl)) (xv 8) T.n_isinstance T.n_bool bt_bool))) (tor1 (tcmp (opNe hr.units) (xv 8) (xcmp (opEq hr.units) (xv 9) (pe_fz (xl an))))))) (b1 (sret xb)) bn))))))
    (bc (sset 10 sc_law.nd (xcb (cSum rfl) T.n_sum bt_sum (ac (pe_fz (xlc [("low", 12), ("high", 13)] sc_law.nd (iseq (xv 3)) (by kernel_rfl) (fun _ _ _ _ _ => (gt rfl (gsc (gn 12 sc_law.nd) (gsc (gn 13 sc_law.nd) gsn)))) (fun _ _ _ _ _ => tyes) (fun _ _ _ _ _ => (xop opAdd (xop opSub (xc h__law_place (hr.mono (by decide)) (ac' (xv 13) an') (lc ln)) (xc h__law_place (hr.mono (by decide)) (ac' (xv 12) an') (lc ln))) xi)))) an)))
    (bc (sif (PW.pt (tor (tnot (tv (xc h__law_whole (hr.mono (by decide)) (ac' (xc h_count (hr.mono (by decide)) (ac' (xv 3) an') (lc ln)) an') (lc ln)))) (tor (tcmp (opNe hr.units) (xc h_count (hr.mono (by decide)) (ac' (xv 3) an') (lc ln)) (xv 10)) (tor1 (tcmp (opNe hr.units) (xop opAdd (xc h_count (hr.mono (by decide)) (ac' (xv 3) an') (lc ln)) (xc h_count (hr.mono (by decide)) (ac' (xc h_rest (hr.mono (by decide)) (ac' (xv 3) an') (lc ln)) an') (lc ln))) (xop opPow xi xi)))))) (b1 (sret xb)) bn)
    (b1 (sif (tnot (tv (xis (.inr (.inl rfl)) (xc h_has (hr.mono (by decide)) (ac' (xv 3) (ac' (xt (ac xi (ac xi (ac xi an)))) an')) (lc (lc ln))) T.n_isinstance T.n_bool bt_bool))) (b1 (sret xb)) bn))))))))))
    (b1 (sret xb)))
theorem fn_law (T : Txt K mg) {f : Addr} {fd : FuncData} (Fl : Fun K "law" "law" s_law f fd) : FnOk P w K mg base CX0 5 f fd ["script"] (spOf K F_law 1) := by
  have h_place_of : Ok P w K mg base 1 "place_of" ["edition"] F_place_of := ok_place_of T 
  have h_edition_at : Ok P w K mg base 1 "edition_at" ["place"] F_edition_at := ok_edition_at T 
  have h_spans_of : Ok P w K mg base 2 "spans_of" ["one"] F_spans_of := ok_spans_of T h_place_of
  have h_joined : Ok P w K mg base 2 "joined" ["spans"] F_joined := ok_joined T h_edition_at
  have h_both : Ok P w K mg base 3 "both" ["one", "other"] F_both := ok_both T h_joined h_spans_of
  have h_either : Ok P w K mg base 3 "either" ["one", "other"] F_either := ok_either T h_joined h_spans_of
  have h_rest : Ok P w K mg base 3 "rest" ["one"] F_rest := ok_rest T h_spans_of h_joined h_place_of
  have h_has : Ok P w K mg base 1 "has" ["one", "edition"] F_has := ok_has T 
  have h_is_within : Ok P w K mg base 4 "is_within" ["one", "other"] F_is_within := ok_is_within T h_both
  have h_count : Ok P w K mg base 3 "count" ["one"] F_count := ok_count T h_spans_of
  have h__law_deck : Ok P w K mg base 1 "_law_deck" ["cell", "turn"] F__law_deck := ok__law_deck T 
  have h__law_pick : Ok P w K mg base 1 "_law_pick" ["deck", "many"] F__law_pick := ok__law_pick T 
  have h__law_whole : Ok P w K mg base 1 "_law_whole" ["thing"] F__law_whole := ok__law_whole T 
  have h__law_edition : Ok P w K mg base 2 "_law_edition" ["deck"] F__law_edition := ok__law_edition T h__law_pick
  have h__law_place : Ok P w K mg base 1 "_law_place" ["edition"] F__law_place := ok__law_place T 
  have h__law_at : Ok P w K mg base 1 "_law_at" ["place"] F__law_at := ok__law_at T 
  have h__law_joined : Ok P w K mg base 2 "_law_joined" ["spans"] F__law_joined := ok__law_joined T h__law_at
  have h__law_span : Ok P w K mg base 3 "_law_span" ["deck"] F__law_span := ok__law_span T h__law_pick h__law_joined h__law_place h__law_edition h__law_at
  have h__law_is_edition : Ok P w K mg base 2 "_law_is_edition" ["thing"] F__law_is_edition := ok__law_is_edition T h__law_whole
  have h__law_is_range : Ok P w K mg base 3 "_law_is_range" ["thing"] F__law_is_range := ok__law_is_range T h__law_place h__law_is_edition
  have h__law_in : Ok P w K mg base 2 "_law_in" ["span", "place"] F__law_in := ok__law_in T h__law_place
  have h__law_near : Ok P w K mg base 2 "_law_near" ["spans"] F__law_near := ok__law_near T h__law_place
  have h__law_many : Ok P w K mg base 3 "_law_many" ["deck"] F__law_many := ok__law_many T h__law_joined h__law_pick
  have h__law_due_right : Ok P w K mg base 4 "_law_due_right" ["one", "other", "places"] F__law_due_right := ok__law_due_right T h_both h_either h_rest h__law_in h_has h__law_is_range h__law_at
  exact fn_ok (N := ["script", "cell", "deck", "one", "other", "places", "a", "b", "within", "crossing", "total", "place", "low", "high"]) Fl sc_law fun cdv A outer s H E hr => (bc (sfor (ws := [1]) PassesOwn.never rfl (iseq (xop opAdd (pe_fz (xl (ac xi an))) (xsl (xv 0) on (os xi)))) (gn 1 sc_law.nd) (bc (sown 2 sc_law.nd (xcn h__law_deck (hr.mono (by decide)) (ac' (xv 1) (ac' xi an')) (lc (lc ln))))
    (bc (sset 3 sc_law.nd (xix ixD (pe_fz (xl (ac (xc h__law_span (hr.mono (by decide)) (ar 2 an') (lr ln)) (ac (xc h__law_many (hr.mono (by decide)) (ar 2 an') (lr ln)) an)))) (xc h__law_pick (hr.mono (by decide)) (ar 2 (ac' xi an')) (lr (lc ln)))))
    (bc (sset 4 sc_law.nd (xix ixD (pe_fz (xl (ac (xc h__law_span (hr.mono (by decide)) (ar 2 an') (lr ln)) (ac (xc h__law_many (hr.mono (by decide)) (ar 2 an') (lr ln)) (ac (xv 3) an))))) (xc h__law_pick (hr.mono (by decide)) (ar 2 (ac' xi an')) (lr (lc ln)))))
    (bc (sset 5 sc_law.nd (xc h__law_near (hr.mono (by decide)) (ac' (pe_fz (xl (ac (xv 3) (ac (xv 4) an)))) an') (lc ln)))
    (bc (sfor (ws := [6, 7]) PassesOwn.never rfl (iseq (pe_fz (xl (ac (xt (ac (xv 3) (ac (xv 4) an))) (ac (xt (ac (xv 4) (ac (xv 3) an))) (ac (xt (ac (xv 3) (ac (xv 3) an))) (ac (xt (ac (xv 3) (ac (xt an) an))) (ac (xt (ac (xv 3) (ac (xc h_rest (hr.mono (by decide)) (ac' (xv 3) an') (lc ln)) an))) an)))))))) (gt rfl (gsc (gn 6 sc_law.nd) (gsc (gn 7 sc_law.nd) gsn))) (bc (sif (tnot (tv (xc h__law_due_right (hr.mono (by decide)) (ac' (xv 6) (ac' (xv 7) (ac' (xv 5) an'))) (lc (lc (lc ln)))))) (b1 (sret xb)) bn)
    (bc (sset 8 sc_law.nd (xc h_is_within (hr.mono (by decide)) (ac' (xv 6) (ac' (xv 7) an')) (lc (lc ln))))
    (bc (sfz (fun I => I.slen) (xsetLc 9 [("place", 11)] sc_law.nd (iseq (xv 5)) (by kernel_rfl) (fun _ _ _ _ _ => (gn 11 sc_law.nd)) (fun _ _ _ _ _ => (pts_one (PW.pt (tand (tv (xc h__law_in (hr.mono (by decide)) (ac' (xv 6) (ac' (xv 11) an')) (lc (lc ln)))) (tand1 (tnot (tv (xc h__law_in (hr.mono (by decide)) (ac' (xv 7) (ac' (xv 11) an')) (lc (lc ln)))))))))) (fun _ _ _ _ _ => (xv 11)) rfl))
    (b1 (sif (PW.pt (tor (tnot (tv (xis (.inr (.inl rfl)) (xv 8) T.n_isinstance T.n_bool bt_bool))) (tor1 (tcmp (opNe hr.units) (xv 8) (xcmp (opEq hr.units) (xv 9) (pe_fz (xl an))))))) (b1 (sret xb)) bn))))))
    (bc (sset 10 sc_law.nd (xcb (cSum rfl) T.n_sum bt_sum (ac (pe_fz (xlc [("low", 12), ("high", 13)] sc_law.nd (iseq (xv 3)) (by kernel_rfl) (fun _ _ _ _ _ => (gt rfl (gsc (gn 12 sc_law.nd) (gsc (gn 13 sc_law.nd) gsn)))) (fun _ _ _ _ _ => tyes) (fun _ _ _ _ _ => (xop opAdd (xop opSub (xc h__law_place (hr.mono (by decide)) (ac' (xv 13) an') (lc ln)) (xc h__law_place (hr.mono (by decide)) (ac' (xv 12) an') (lc ln))) xi)))) an)))
    (bc (sif (PW.pt (tor (tnot (tv (xc h__law_whole (hr.mono (by decide)) (ac' (xc h_count (hr.mono (by decide)) (ac' (xv 3) an') (lc ln)) an') (lc ln)))) (tor (tcmp (opNe hr.units) (xc h_count (hr.mono (by decide)) (ac' (xv 3) an') (lc ln)) (xv 10)) (tor1 (tcmp (opNe hr.units) (xop opAdd (xc h_count (hr.mono (by decide)) (ac' (xv 3) an') (lc ln)) (xc h_count (hr.mono (by decide)) (ac' (xc h_rest (hr.mono (by decide)) (ac' (xv 3) an') (lc ln)) an') (lc ln))) (xop opPow xi xi)))))) (b1 (sret xb)) bn)
    (b1 (sif (tnot (tv (xis (.inr (.inl rfl)) (xc h_has (hr.mono (by decide)) (ac' (xv 3) (ac' (xt (ac xi (ac xi (ac xi an)))) an')) (lc (lc ln))) T.n_isinstance T.n_bool bt_bool))) (b1 (sret xb)) bn))))))))))
    (b1 (sret xb)))
end
end G

set_option maxHeartbeats 1000000
namespace G
open PySem Dt Dm Dk Rn
open L2 (atI ixN)
open PySem.W (Datum DatumOrd Tup T3 T4)
abbrev Ed := T3 Int Int Int
def at_ (p : Int) : Ed := ⟨p / 10000, p / 100 % 100, p % 100⟩
theorem ed_D (a b c : Int) : Datum.toD (T3.mk a b c) = (.tuple [.int a, .int b, .int c] : D) := rfl
theorem sp_D (p : Pr) : Datum.toD p = (.tuple [.int p.1, .int p.2] : D) := rfl
theorem ep_D (p : Ed × Ed) : Datum.toD p = (.tuple [Datum.toD p.1, Datum.toD p.2] : D) := rfl
def rt (ps : List Pr) : Tup (Ed × Ed) := ⟨ps.map fun p => (at_ p.1, at_ p.2)⟩
def ra (ps : List Pr) : D := Datum.toD (rt ps)
theorem ra_eq (ps : List Pr) : ra ps = .tuple (ps.map fun p => .tuple [Datum.toD (at_ p.1), Datum.toD (at_ p.2)]) := by
  show PyData.tuple ((ps.map _).map _) = _
  rw [List.map_map]; rfl
theorem at_inj {p q : Int} (h : at_ p = at_ q) : p = q := by
  have h1 := congrArg T3.a h
  have h2 := congrArg T3.b h
  have h3 := congrArg T3.c h
  simp only [at_] at h1 h2 h3
  omega
theorem rt_inj {ps qs : List Pr} (h : rt ps = rt qs) : ps = qs := by
  have := congrArg Tup.items h
  exact (List.map_inj_right (f := fun p : Pr => (at_ p.1, at_ p.2)) fun a b e => Prod.ext (at_inj (congrArg Prod.fst e)) (at_inj (congrArg Prod.snd e))).mp this
theorem place_of_at (p : Int) (h1 : -1000000000 ≤ p) (h2 : p ≤ 1000000000) : ev1 F_place_of (Datum.toD (at_ p)) = some (.int p) := by
  unfold F_place_of
  rw [q_ev1]
  unfold B_place_of at_
  rw [ed_D]
  have a1 : (p / 10000).natAbs < 18446744073709551616 := by omega
  have a2 : (p / 100 % 100).natAbs < 18446744073709551616 := by omega
  have l1 : dMul (.int (p / 10000)) (.int 10000) = some (.int (p / 10000 * 10000)) := mul_int a1 (by decide)
  have l2 : dMul (.int (p / 100 % 100)) (.int 100) = some (.int (p / 100 % 100 * 100)) := mul_int a2 (by decide)
  simp [-q_mul, l1, l2]
  omega
theorem edition_at_eq (p : Int) : ev1 F_edition_at (.int p) = some (Datum.toD (at_ p)) := by
  unfold F_edition_at
  rw [q_ev1]
  unfold B_edition_at at_
  rw [ed_D]
  simp
theorem law_place_at (p : Int) (h1 : -1000000000 ≤ p) (h2 : p ≤ 1000000000) : ev1 F__law_place (Datum.toD (at_ p)) = some (.int p) := place_of_at p h1 h2
theorem law_at_eq (p : Int) : ev1 F__law_at (.int p) = some (Datum.toD (at_ p)) := edition_at_eq p
def Bd (ps : List Pr) : Prop := ∀ p ∈ ps, -1000000000 ≤ p.1 ∧ p.1 ≤ 1000000000 ∧ -1000000000 ≤ p.2 ∧ p.2 ≤ 1000000000
theorem spans_of_ra (ps : List Pr) (hb : Bd ps) (hl : ps.length ≤ 10000) : ev1 F_spans_of (ra ps) = some (Datum.toD ps) := by
  unfold F_spans_of
  rw [q_ev1, ra_eq]
  unfold B_spans_of
  have hc := comp_map (vs := [1, 2]) (g := gTup 2 (Dt.gCons (Dt.gN 1) (Dt.gCons (Dt.gN 2) Dt.gNil))) (t := bYes) (e := eTup (lCons (eCall F_place_of (aCons (eV 1) aNil)) (lCons (eCall F_place_of (aCons (eV 2) aNil)) lNil)))
    (ss := [.imm (.tuple (ps.map fun p => .tuple [Datum.toD (at_ p.1), Datum.toD (at_ p.2)])), .un, .un]) (fun p : Pr => (.tuple [Datum.toD (at_ p.1), Datum.toD (at_ p.2)] : D)) (fun _ => true) (fun p => Datum.toD p) ps fun p hp => by
      obtain ⟨b1, b2, b3, b4⟩ := hb p hp
      unfold turnF
      simp [lend, lendS, unlend, unlendS, wipeS, place_of_at _ b1 b2, place_of_at _ b3 b4, sp_D]
  have hf : ps.filter (fun _ => true) = ps := List.filter_eq_self.mpr fun _ _ => rfl
  rw [hf] at hc
  simp [wipeS, hc, backS, backF, keepS]
  rw [if_pos (by omega)]
  simp
  rfl
theorem nil_D : Datum.toD ([] : List Pr) = (.list [] : D) := rfl
def RJ (S : D) (acc rest : List Pr) (ss : SS) : Prop := (∃ x y, ss = [.imm S, .own (.lst (acc.reverse.map Datum.toD)), x, y]) ∧ acc.length + rest.length ≤ 10000
theorem joined_eq (ps : List Pr) (hl : ps.length ≤ 10000) : ev1 F_joined (Datum.toD ps) = some (ra (join (srt ps))) := by
  unfold F_joined
  rw [q_ev1]
  unfold B_joined
  have hs : gSorted [Datum.toD ps] = some (.lst ((srt ps).map Datum.toD)) := srt_dat ps (pair_kind ps)
  have hq : (srt ps).length = ps.length := (srt_perm ps).length_eq
  obtain ⟨s2, h1, ⟨x, y, rfl⟩, h2⟩ := loop_rest (g := gTup 2 (gCons (gN 2) (gCons (gN 3) gNil)))
    (b := sIf (bAnd (bOf (ePkL dNe 1 (eFz (nLst lNil)))) (bOf (eOp dLe (eV 2) (eOp dAdd (eOp dIx (eOix 1 (eUn dNeg (eC (.int 1)))) (eC (.int 1))) (eC (.int 1)))))) (sSetL 1 (eUn dNeg (eC (.int 1))) (eTup (lCons (eOp dIx (eOix 1 (eUn dNeg (eC (.int 1)))) (eC (.int 0))) (lCons (eCB gMax (lCons (eOp dIx (eOix 1 (eUn dNeg (eC (.int 1)))) (eC (.int 1))) (lCons (eV 3) lNil))) lNil)))) (sIf (bOf (eOp dLe (eV 2) (eV 3))) (sApp 1 (eTup (lCons (eV 2) (lCons (eV 3) lNil)))) sNil))
    (fun p : Pr => (Datum.toD p : D)) jstep (RJ (Datum.toD ps)) (fun acc p r ss hR => by
      obtain ⟨⟨x, y, rfl⟩, hb⟩ := hR
      rw [List.length_cons] at hb
      refine ⟨[.imm (Datum.toD ps), .own (.lst (acc.reverse.map Datum.toD)), .imm (.int p.1), .imm (.int p.2)], ?_⟩
      cases acc with
      | nil =>
        have hn : dNe (.list []) (.list []) = some (.bool false) := ne_dat ([] : List Pr) []
        by_cases hp : p.1 ≤ p.2
        · refine ⟨_, by simp [sp_D], ?_, ⟨⟨.imm (.int p.1), .imm (.int p.2), rfl⟩, ?_⟩⟩
          · simp [hn, hp, jstep, sp_D]
          · simp [jstep, hp]
            simp at hb
            omega
        · refine ⟨_, by simp [sp_D], ?_, ⟨⟨.imm (.int p.1), .imm (.int p.2), rfl⟩, ?_⟩⟩
          · simp [hn, hp, jstep, sp_D]
          · simp [jstep, hp]
            simp at hb
            omega
      | cons q t =>
        have hn : dNe (.list ((t.reverse ++ [q]).map Datum.toD)) (.list []) = some (.bool true) := (ne_dat (t.reverse ++ [q]) []).trans (by simp)
        rw [List.length_cons] at hb
        have hix : ixN (t.length + 1) (-1) = some t.length := by
          have := q_ixL q t.reverse
          simpa using this
        by_cases hj : p.1 ≤ q.2 + 1
        · refine ⟨_, by simp [sp_D], ?_, ⟨⟨.imm (.int p.1), .imm (.int p.2), rfl⟩, ?_⟩⟩
          · simp [sp_D] at hn
            simp [hn, hj, jstep, sp_D, hix]
          · simp [jstep, hj]
            omega
        · by_cases hp : p.1 ≤ p.2
          · refine ⟨_, by simp [sp_D], ?_, ⟨⟨.imm (.int p.1), .imm (.int p.2), rfl⟩, ?_⟩⟩
            · simp [sp_D] at hn
              simp [hn, hj, hp, jstep, sp_D]
              omega
            · simp [jstep, hj, hp]
              omega
          · refine ⟨_, by simp [sp_D], ?_, ⟨⟨.imm (.int p.1), .imm (.int p.2), rfl⟩, ?_⟩⟩
            · simp [sp_D] at hn
              simp [hn, hj, hp, jstep, sp_D]
            · simp [jstep, hj, hp]
              omega) (srt ps) [] [.imm (Datum.toD ps), .own (.lst []), .un, .un] ⟨⟨.un, .un, rfl⟩, by simp [hq]; exact hl⟩
  have hc := comp_map (vs := [2, 3]) (g := gTup 2 (gCons (gN 2) (gCons (gN 3) gNil))) (t := bYes) (e := eTup (lCons (eCall F_edition_at (aCons (eV 2) aNil)) (lCons (eCall F_edition_at (aCons (eV 3) aNil)) lNil)))
    (ss := [.imm (Datum.toD ps), .imm (.list ((join (srt ps)).map Datum.toD)), .un, .un]) (fun p : Pr => (Datum.toD p : D)) (fun _ => true) (fun p => (.tuple [Datum.toD (at_ p.1), Datum.toD (at_ p.2)] : D)) (join (srt ps)) fun p hp => by
      unfold turnF
      simp [lend, lendS, unlend, unlendS, wipeS, edition_at_eq, sp_D]
  have hf : (join (srt ps)).filter (fun _ => true) = join (srt ps) := List.filter_eq_self.mpr fun _ _ => rfl
  rw [hf] at hc
  have hlen : (join (srt ps)).length ≤ 10000 := by
    unfold join
    rw [List.length_reverse]
    simpa using h2
  have hj : List.map Datum.toD (List.foldl jstep [] (srt ps)).reverse = (join (srt ps)).map Datum.toD := rfl
  simp only [List.replicate] 
  simp [hs, h1, wipeS, backS, backF, keepS]
  rw [← List.map_reverse, hj, hc]
  simp
  rw [if_pos (by omega)]
  simp [backS, backF, keepS]
  rw [ra_eq]
end G

set_option maxHeartbeats 1000000
namespace G
open PySem Dt Dm Dk Rn
open L2 (atI ixN)
open PySem.W (Datum DatumOrd Tup T3 T4)
structure Rg (n : Nat) (ps : List Pr) : Prop where
  can : Can 0 999999 ps
  len : ps.length ≤ n
theorem can_all {lo hi : Int} : ∀ {ps : List Pr}, Can lo hi ps → 0 ≤ lo → ∀ p ∈ ps, 0 ≤ p.1 ∧ p.1 ≤ p.2 ∧ p.2 ≤ hi
  | p :: r, h, h0, q, hq => by
    rcases List.mem_cons.mp hq with rfl | hq
    · exact ⟨Int.le_trans h0 h.1, h.2.1, h.2.2.1⟩
    · refine can_all h.2.2.2 ?_ q hq
      have := h.1; have := h.2.1; omega
  | [], h, _, q, hq => nomatch hq
theorem Rg.bd {n : Nat} {ps : List Pr} (h : Rg n ps) : Bd ps := fun p hp => by
  have := can_all h.can (Int.le_refl _) p hp
  omega
theorem srt_first (ps : List Pr) : (srt ps).Pairwise fun a b => a.1 ≤ b.1 := (srt_pair ps).imp fun {a b} h => by
  have h : (if b.1 = a.1 then decide (b.2 < a.2) else decide (b.1 < a.1)) = false := h
  split at h
  · omega
  · have := of_decide_eq_false h; omega
theorem join_srt {n : Nat} {ps : List Pr} (hb : ∀ p ∈ ps, 0 ≤ p.1 ∧ p.1 ≤ p.2 ∧ p.2 ≤ 999999) (hn : ps.length ≤ n) : Rg n (join (srt ps)) ∧ ∀ x, Mem (join (srt ps)) x ↔ Mem ps x := by
  obtain ⟨h1, h2, h3⟩ := join_ok (lo := 0) (hi := 999999) (srt_first ps) fun p hp => hb p ((srt_perm ps).mem_iff.mp hp)
  refine ⟨⟨h1, by rw [(srt_perm ps).length_eq] at h3; omega⟩, fun x => ?_⟩
  rw [h2, mem_perm (srt_perm ps)]
def mx (i j : Int) : Int := if j > i then j else i
def mn (i j : Int) : Int := if j < i then j else i
def prods (ps qs : List Pr) : List Pr := ps.flatMap fun p => qs.map fun q => (mx p.1 q.1, mn p.2 q.2)
theorem prods_len (ps qs : List Pr) : (prods ps qs).length = ps.length * qs.length := by
  unfold prods
  induction ps with
  | nil => simp
  | cons p r ih => rw [List.flatMap_cons, List.length_append, ih, List.length_map, List.length_cons, Nat.succ_mul, Nat.add_comm]
def ne (ps : List Pr) : List Pr := ps.filter fun p => decide (p.1 ≤ p.2)
theorem ne_len (ps : List Pr) : (ne ps).length ≤ ps.length := List.length_filter_le _ _
theorem both_eq (a b : List Pr) (ha : Rg 100 a) (hb : Rg 100 b) : ev2 F_both (ra a) (ra b) = some (ra (join (srt (ne (prods a b))))) := by
  unfold F_both
  rw [q_ev2]
  unfold B_both
  have l1 := ha.len
  have l2 := hb.len
  have s1 := spans_of_ra a ha.bd (by omega)
  have s2 := spans_of_ra b hb.bd (by omega)
  have lp : (prods a b).length ≤ 10000 := by
    rw [prods_len]
    exact Nat.le_trans (Nat.mul_le_mul l1 l2) (by decide)
  have ln := ne_len (prods a b)
  have h2 := comp2_map (β := Pr) (vs := [3, 4]) (vs1 := [4]) (g := gN 3) (t := bYes) (src := lSeq (eCall F_spans_of (aCons (eV 1) aNil))) (g1 := gN 4) (t1 := bYes) (e := eTup (lCons (eCB gMax (lCons (eOp dIx (eV 3) (eC (.int 0))) (lCons (eOp dIx (eV 4) (eC (.int 0))) lNil))) (lCons (eCB gMin (lCons (eOp dIx (eV 3) (eC (.int 1))) (lCons (eOp dIx (eV 4) (eC (.int 1))) lNil))) lNil)))
    (ss := [.imm (ra a), .imm (ra b), .un, .un, .un, .un]) (fun p : Pr => (Datum.toD p : D)) (fun p => b.map fun q => (Datum.toD ((mx p.1 q.1, mn p.2 q.2) : Pr) : D)) a fun p hp => by
      have h1 := comp_map (vs := [4]) (g := gN 4) (t := bYes) (e := eTup (lCons (eCB gMax (lCons (eOp dIx (eV 3) (eC (.int 0))) (lCons (eOp dIx (eV 4) (eC (.int 0))) lNil))) (lCons (eCB gMin (lCons (eOp dIx (eV 3) (eC (.int 1))) (lCons (eOp dIx (eV 4) (eC (.int 1))) lNil))) lNil)))
        (ss := [.imm (ra a), .imm (ra b), .un, .imm (Datum.toD p), .un, .un]) (fun p : Pr => (Datum.toD p : D)) (fun _ => true) (fun q => (Datum.toD ((mx p.1 q.1, mn p.2 q.2) : Pr) : D)) b fun q hq => by
          unfold turnF
          simp [lend, lendS, unlend, unlendS, wipeS, sp_D, mx, mn]
      have hf : b.filter (fun _ => true) = b := List.filter_eq_self.mpr fun _ _ => rfl
      rw [hf] at h1
      unfold turn2F
      have hi : itemsOf (Datum.toD b) = some (b.map fun p : Pr => (Datum.toD p : D)) := rfl
      simp [lend, lendS, unlend, unlendS, wipeS, s2, hi, h1]
  have hfl : (a.flatMap fun p => b.map fun q => (Datum.toD ((mx p.1 q.1, mn p.2 q.2) : Pr) : D)) = (prods a b).map Datum.toD := by
    unfold prods
    rw [List.map_flatMap]
    simp
    rfl
  have h3 := comp_map (vs := [5]) (g := gN 5) (t := bOf (eOp dLe (eOp dIx (eV 5) (eC (.int 0))) (eOp dIx (eV 5) (eC (.int 1))))) (e := eV 5)
    (ss := [.imm (ra a), .imm (ra b), .imm (.list ((prods a b).map Datum.toD)), .un, .un, .un]) (fun p : Pr => (Datum.toD p : D)) (fun p => decide (p.1 ≤ p.2)) (fun p => (Datum.toD p : D)) (prods a b) fun p hp => by
      unfold turnF
      by_cases h : p.1 ≤ p.2 <;> simp [lend, lendS, unlend, unlendS, wipeS, sp_D, h]
  have hi : itemsOf (Datum.toD a) = some (a.map fun p : Pr => (Datum.toD p : D)) := rfl
  rw [hfl] at h2
  have hj := joined_eq (ne (prods a b)) (by omega)
  have e1 : (Datum.toD (ne (prods a b)) : D) = .list ((ne (prods a b)).map Datum.toD) := rfl
  rw [e1] at hj
  unfold ne at hj
  simp [s1, hi, wipeS, h2, backS, backF, keepS]
  rw [if_pos (by omega)]
  simp [wipeS, h3]
  rw [if_pos (by unfold ne at ln; omega)]
  simp [backS, backF, keepS, hj]
  rfl
theorem both_ok {n m : Nat} {a b : List Pr} (ha : Rg n a) (hb : Rg m b) (hn : n ≤ 100) (hm : m ≤ 100) : ∃ c, ev2 F_both (ra a) (ra b) = some (ra c) ∧ Rg (n * m) c ∧ ∀ x, Mem c x ↔ Mem a x ∧ Mem b x := by
  have l1 := ha.len
  have l2 := hb.len
  obtain ⟨h1, h2⟩ := join_srt (n := n * m) (ps := ne (prods a b)) (fun p hp => by
    obtain ⟨hp, hd⟩ := List.mem_filter.mp hp
    have hd := of_decide_eq_true hd
    obtain ⟨q, hq, hp⟩ := List.mem_flatMap.mp hp
    obtain ⟨r, hr, rfl⟩ := List.mem_map.mp hp
    have := can_all ha.can (Int.le_refl _) q hq
    have := can_all hb.can (Int.le_refl _) r hr
    simp only [mx, mn] at *
    repeat' split at *
    all_goals omega) (Nat.le_trans (ne_len _) (by rw [prods_len]; exact Nat.mul_le_mul l1 l2))
  refine ⟨_, both_eq a b ⟨ha.can, by omega⟩ ⟨hb.can, by omega⟩, h1, fun x => ?_⟩
  rw [h2]
  constructor
  · rintro ⟨p, hp, h3, h4⟩
    obtain ⟨hp, hd⟩ := List.mem_filter.mp hp
    obtain ⟨q, hq, hp⟩ := List.mem_flatMap.mp hp
    obtain ⟨r, hr, rfl⟩ := List.mem_map.mp hp
    simp only [mx, mn] at h3 h4
    refine ⟨⟨q, hq, ?_⟩, ⟨r, hr, ?_⟩⟩
    · repeat' split at *
      all_goals omega
    · repeat' split at *
      all_goals omega
  · rintro ⟨⟨q, hq, h3⟩, ⟨r, hr, h4⟩⟩
    refine ⟨(mx q.1 r.1, mn q.2 r.2), List.mem_filter.mpr ⟨List.mem_flatMap.mpr ⟨q, hq, List.mem_map.mpr ⟨r, hr, rfl⟩⟩, decide_eq_true ?_⟩, ?_⟩
    · simp only [mx, mn]
      repeat' split
      all_goals omega
    · simp only [mx, mn]
      repeat' split
      all_goals omega
theorem either_eq (a b : List Pr) (ha : Rg 4000 a) (hb : Rg 4000 b) : ev2 F_either (ra a) (ra b) = some (ra (join (srt (a ++ b)))) := by
  unfold F_either
  rw [q_ev2]
  unfold B_either
  have l1 := ha.len
  have l2 := hb.len
  have s1 := spans_of_ra a ha.bd (by omega)
  have s2 := spans_of_ra b hb.bd (by omega)
  have hj := joined_eq (a ++ b) (by rw [List.length_append]; omega)
  have e0 : dAdd (Datum.toD a) (Datum.toD b) = some (Datum.toD (a ++ b)) := by
    show fits _ _ = _
    rw [q_fits, if_pos (by simp; omega), ← List.map_append]
    rfl
  simp [s1, s2, e0, hj]
theorem either_ok {n m : Nat} {a b : List Pr} (ha : Rg n a) (hb : Rg m b) (hn : n ≤ 4000) (hm : m ≤ 4000) : ∃ c, ev2 F_either (ra a) (ra b) = some (ra c) ∧ Rg (n + m) c ∧ ∀ x, Mem c x ↔ Mem a x ∨ Mem b x := by
  have l1 := ha.len
  have l2 := hb.len
  obtain ⟨h1, h2⟩ := join_srt (n := n + m) (ps := a ++ b) (fun p hp => by
    rcases List.mem_append.mp hp with hp | hp
    · exact can_all ha.can (Int.le_refl _) p hp
    · exact can_all hb.can (Int.le_refl _) p hp) (by rw [List.length_append]; omega)
  refine ⟨_, either_eq a b ⟨ha.can, by omega⟩ ⟨hb.can, by omega⟩, h1, fun x => ?_⟩
  rw [h2]
  simp only [Mem, List.mem_append, or_and_right, exists_or]
end G

set_option maxHeartbeats 1000000
namespace G
open PySem Dt Dm Dk Rn
open L2 (atI ixN)
open PySem.W (Datum DatumOrd Tup T3 T4)
/-- what is left out -/
def gaps : Int → List Pr → List Pr
  | lo, [] => [(lo, 999999)]
  | lo, p :: r => (lo, p.1 - 1) :: gaps (p.2 + 1) r
theorem gaps_len : ∀ (lo : Int) (ps : List Pr), (gaps lo ps).length = ps.length + 1
  | _, [] => rfl
  | lo, p :: r => by rw [gaps, List.length_cons, gaps_len, List.length_cons]
theorem gaps_ok : ∀ (ps : List Pr) (lo l : Int), Can l 999999 ps → 0 ≤ lo → lo ≤ l → lo ≤ 1000000 → (∀ p ∈ ne (gaps lo ps), 0 ≤ p.1 ∧ p.1 ≤ p.2 ∧ p.2 ≤ 999999) ∧ ∀ x, Mem (ne (gaps lo ps)) x ↔ (lo ≤ x ∧ x ≤ 999999) ∧ ¬Mem ps x
  | [], lo, l, h, h0, hl, hm => by
    unfold gaps ne
    by_cases hd : lo ≤ 999999
    · have e : List.filter (fun p : Pr => decide (p.1 ≤ p.2)) [(lo, 999999)] = [(lo, 999999)] := by simp [hd]
      rw [e]
      refine ⟨fun p hp => ?_, fun x => ?_⟩
      · have hp : p = (lo, 999999) := List.mem_singleton.mp hp
        subst hp
        exact ⟨h0, ⟨hd, Int.le_refl (999999 : Int)⟩⟩
      · rw [mem_cons]
        simp [mem_nil]
    · have e : List.filter (fun p : Pr => decide (p.1 ≤ p.2)) [(lo, 999999)] = [] := by simp [hd]
      rw [e]
      refine ⟨fun p hp => (nomatch hp), fun x => ?_⟩
      have : ¬(lo ≤ x ∧ x ≤ 999999) := by omega
      simp [mem_nil, this]
  | q :: r, lo, l, h, h0, hl, hm => by
    obtain ⟨h1, h2, h3, h4⟩ := h
    obtain ⟨k1, k2⟩ := gaps_ok r (q.2 + 1) (q.2 + 2) h4 (by omega) (by omega) (by omega)
    unfold gaps
    by_cases hd : lo ≤ q.1 - 1
    · have e : ne ((lo, q.1 - 1) :: gaps (q.2 + 1) r) = (lo, q.1 - 1) :: ne (gaps (q.2 + 1) r) := by
        unfold ne
        rw [List.filter_cons_of_pos (by simpa using hd)]
      rw [e]
      refine ⟨fun p hp => ?_, fun x => ?_⟩
      · rcases List.mem_cons.mp hp with rfl | hp
        · exact ⟨h0, hd, by show q.1 - 1 ≤ _; omega⟩
        · exact k1 p hp
      · rw [mem_cons, k2, mem_cons]
        show (lo ≤ x ∧ x ≤ q.1 - 1) ∨ _ ↔ _
        constructor
        · rintro (⟨z1, z2⟩ | ⟨⟨z1, z2⟩, z3⟩)
          · refine ⟨⟨z1, by omega⟩, fun z => ?_⟩
            rcases z with z | z
            · omega
            · have := (h4.low z).1; omega
          · refine ⟨⟨by omega, z2⟩, fun z => ?_⟩
            rcases z with z | z
            · omega
            · exact z3 z
        · rintro ⟨⟨z1, z2⟩, z3⟩
          by_cases hx : x ≤ q.1 - 1
          · exact .inl ⟨z1, hx⟩
          · refine .inr ⟨⟨?_, z2⟩, fun z => z3 (.inr z)⟩
            refine Decidable.byContradiction fun hc => z3 (.inl ?_)
            omega
    · have e : ne ((lo, q.1 - 1) :: gaps (q.2 + 1) r) = ne (gaps (q.2 + 1) r) := by
        unfold ne
        rw [List.filter_cons_of_neg (by simpa using hd)]
      rw [e]
      refine ⟨k1, fun x => ?_⟩
      rw [k2, mem_cons]
      constructor
      · rintro ⟨⟨z1, z2⟩, z3⟩
        refine ⟨⟨by omega, z2⟩, fun z => ?_⟩
        rcases z with z | z
        · omega
        · exact z3 z
      · rintro ⟨⟨z1, z2⟩, z3⟩
        refine ⟨⟨?_, z2⟩, fun z => z3 (.inr z)⟩
        refine Decidable.byContradiction fun hc => z3 (.inl ?_)
        omega
def gstep (s : List Pr × Int) (p : Pr) : List Pr × Int := (s.1 ++ [(s.2, p.1 - 1)], p.2 + 1)
theorem gstep_fold : ∀ (ps : List Pr) (acc : List Pr) (lo : Int), (ps.foldl gstep (acc, lo)).1 ++ [((ps.foldl gstep (acc, lo)).2, 999999)] = acc ++ gaps lo ps
  | [], acc, lo => rfl
  | p :: r, acc, lo => by
    rw [List.foldl_cons, gaps]
    show (List.foldl gstep (acc ++ [(lo, p.1 - 1)], p.2 + 1) r).1 ++ [((List.foldl gstep (acc ++ [(lo, p.1 - 1)], p.2 + 1) r).2, 999999)] = _
    rw [gstep_fold r]
    simp
def Im (x : Sl) : Prop := x = .un ∨ ∃ d, x = .imm d
def RR (S : D) (s : List Pr × Int) (rest : List Pr) (ss : SS) : Prop := (∃ x y, Im x ∧ Im y ∧ ss = [.imm S, .own (.lst (s.1.map Datum.toD)), .imm (.int s.2), x, y, .un]) ∧ s.1.length + rest.length ≤ 9000
theorem rest_eq (a : List Pr) (ha : Rg 9000 a) : ev1 F_rest (ra a) = some (ra (join (srt (ne (gaps 0 a))))) := by
  unfold F_rest
  rw [q_ev1]
  unfold B_rest
  have l1 := ha.len
  have s1 := spans_of_ra a ha.bd (by omega)
  obtain ⟨s2, h1, ⟨x, y, hx, hy, rfl⟩, h2⟩ := loop_rest (g := gTup 2 (gCons (gN 3) (gCons (gN 4) gNil)))
    (b := sSeq (sApp 1 (eTup (lCons (eV 2) (lCons (eOp dSub (eV 3) (eC (.int 1))) lNil)))) (sAsg (eOp dAdd (eV 4) (eC (.int 1))) (gN 2)))
    (fun p : Pr => (Datum.toD p : D)) gstep (RR (ra a)) (fun s p r ss hR => by
      obtain ⟨⟨x, y, _, _, rfl⟩, hb⟩ := hR
      rw [List.length_cons] at hb
      refine ⟨[.imm (ra a), .own (.lst (s.1.map Datum.toD)), .imm (.int s.2), .imm (.int p.1), .imm (.int p.2), .un], _, by simp [sp_D], ?_, ⟨⟨.imm (.int p.1), .imm (.int p.2), .inr ⟨_, rfl⟩, .inr ⟨_, rfl⟩, rfl⟩, ?_⟩⟩
      · have : s.1.length < 16777216 := by omega
        simp [gstep, sp_D, this]
      · simp [gstep]
        omega) a ([], 0) [.imm (ra a), .own (.lst []), .imm (.int 0), .un, .un, .un] ⟨⟨.un, .un, .inl rfl, .inl rfl, rfl⟩, by simp; omega⟩
  have hi : itemsOf (Datum.toD a) = some (a.map fun p : Pr => (Datum.toD p : D)) := rfl
  have hl : ev1 F_place_of k_LAST = some (.int 999999) := place_of_at 999999 (by decide) (by decide)
  have hg := gstep_fold a [] 0
  rw [List.nil_append] at hg
  generalize hG : List.foldl gstep ([], 0) a = G at *
  have h3 := comp_map (vs := [5]) (g := gN 5) (t := bOf (eOp dLe (eOp dIx (eV 5) (eC (.int 0))) (eOp dIx (eV 5) (eC (.int 1))))) (e := eV 5)
    (ss := [.imm (ra a), .imm (.list ((gaps 0 a).map Datum.toD)), .imm (.int G.2), x, y, .un]) (fun p : Pr => (Datum.toD p : D)) (fun p => decide (p.1 ≤ p.2)) (fun p => (Datum.toD p : D)) (gaps 0 a) fun p hp => by
      unfold turnF
      rcases hx with rfl | ⟨u, rfl⟩ <;> rcases hy with rfl | ⟨v, rfl⟩ <;> by_cases h : p.1 ≤ p.2 <;> simp [lend, lendS, unlend, unlendS, wipeS, sp_D, h]
  have hgl := gaps_len 0 a
  have ln := ne_len (gaps 0 a)
  have hj := joined_eq (ne (gaps 0 a)) (by omega)
  have e1 : (Datum.toD (ne (gaps 0 a)) : D) = .list ((ne (gaps 0 a)).map Datum.toD) := rfl
  have e2 : G.1.map Datum.toD ++ [.tuple [.int G.2, .int 999999]] = (gaps 0 a).map Datum.toD := by
    rw [← hg, List.map_append]; rfl
  rw [e1] at hj
  unfold ne at hj
  have lg : G.1.length < 16777216 := by
    have := congrArg List.length hg
    rw [List.length_append] at this
    simp at this
    omega
  simp [s1, hi, h1, hl, lg, e2, wipeS, h3]
  rw [if_pos (by unfold ne at ln; omega)]
  simp [backS, backF, keepS, hj]
  rfl
theorem rest_ok {n : Nat} {a : List Pr} (ha : Rg n a) (hn : n ≤ 9000) : ∃ c, ev1 F_rest (ra a) = some (ra c) ∧ Rg (n + 1) c ∧ ∀ x, Mem c x ↔ (0 ≤ x ∧ x ≤ 999999) ∧ ¬Mem a x := by
  have l1 := ha.len
  obtain ⟨g1, g2⟩ := gaps_ok a 0 0 ha.can (by decide) (by decide) (by decide)
  have ln := ne_len (gaps 0 a)
  rw [gaps_len] at ln
  obtain ⟨h1, h2⟩ := join_srt (n := n + 1) g1 (by omega)
  refine ⟨_, rest_eq a ⟨ha.can, by omega⟩, h1, fun x => ?_⟩
  rw [h2, g2]
theorem count_ok {n : Nat} {a : List Pr} (ha : Rg n a) (hn : n ≤ 9000) : ev1 F_count (ra a) = some (.int (cnt (Mem a) 1000000)) := by
  unfold F_count
  rw [q_ev1]
  unfold B_count
  have l1 := ha.len
  have s1 := spans_of_ra a ha.bd (by omega)
  have hi : itemsOf (Datum.toD a) = some (a.map fun p : Pr => (Datum.toD p : D)) := rfl
  have h3 := comp_map (vs := [1, 2]) (g := gTup 2 (gCons (gN 1) (gCons (gN 2) gNil))) (t := bYes) (e := eOp dAdd (eOp dSub (eV 2) (eV 1)) (eC (.int 1)))
    (ss := [.imm (ra a), .un, .un]) (fun p : Pr => (Datum.toD p : D)) (fun _ => true) (fun p => (.int (p.2 - p.1 + 1) : D)) a fun p hp => by
      unfold turnF
      simp [lend, lendS, unlend, unlendS, wipeS, sp_D]
  have hf : a.filter (fun _ => true) = a := List.filter_eq_self.mpr fun _ _ => rfl
  rw [hf] at h3
  have hs : (a.map fun p : Pr => (.int (p.2 - p.1 + 1) : D)).mapM asI = some (a.map fun p => p.2 - p.1 + 1) := by
    clear h3 hf hi s1 l1 ha hn
    induction a with
    | nil => rfl
    | cons p r ih => simp [List.mapM_cons, ih, asI]
  have ht := tot_cnt (hi := 999999) (n := 1000000) (by decide) (Int.le_refl 0) ha.can
  unfold tot at ht
  simp [s1, hi, wipeS, h3]
  rw [if_pos (by omega)]
  simp only [List.mapM_map] at hs
  simp [backS, backF, keepS]
  rw [show (asI ∘ fun p : Pr => (.int (p.2 - p.1 + 1) : D)) = fun p : Pr => asI (.int (p.2 - p.1 + 1)) from rfl]
  first | rw [hs] | (simp only [Function.comp_def] at hs; rw [hs])
  simp [ht]
theorem within_ok {n m : Nat} {a b : List Pr} (ha : Rg n a) (hb : Rg m b) (hn : n ≤ 100) (hm : m ≤ 100) : ∃ t : Bool, ev2 F_is_within (ra a) (ra b) = some (.bool t) ∧ (t = true ↔ ∀ x, Mem a x → Mem b x) := by
  obtain ⟨c, h1, h2, h3⟩ := both_ok ha hb hn hm
  refine ⟨decide (rt c = rt a), ?_, ?_⟩
  · unfold F_is_within
    rw [q_ev2]
    unfold B_is_within
    have := eq_dat (rt c) (rt a)
    have e : dEq (ra c) (ra a) = some (.bool (decide (rt c = rt a))) := this
    simp [h1, e]
  · rw [decide_eq_true_eq]
    constructor
    · intro e x hx
      have := rt_inj e
      subst this
      exact ((h3 x).mp hx).2
    · intro e
      rw [h2.can.ext ha.can fun x => by rw [h3]; exact ⟨fun z => z.1, fun z => ⟨z, e x z⟩⟩]
end G

set_option maxHeartbeats 1000000
namespace G
open PySem Dt Dm Dk Rn
open L2 (atI ixN)
open PySem.W (Datum DatumOrd Tup T3 T4)
theorem law_joined_eq (ps : List Pr) (hl : ps.length ≤ 10000) (hp : ∀ p ∈ ps, p.1 ≤ p.2) : ev1 F__law_joined (Datum.toD ps) = some (ra (join (srt ps))) := by
  unfold F__law_joined
  rw [q_ev1]
  unfold B__law_joined
  have hs : gSorted [Datum.toD ps] = some (.lst ((srt ps).map Datum.toD)) := srt_dat ps (pair_kind ps)
  have hq : (srt ps).length = ps.length := (srt_perm ps).length_eq
  obtain ⟨s2, h1, ⟨⟨x, y, rfl⟩, h2⟩, _⟩ := loop_rest (g := gTup 2 (gCons (gN 2) (gCons (gN 3) gNil)))
    (b := sIf (bAnd (bOf (ePkL dNe 1 (eFz (nLst lNil)))) (bOf (eOp dLe (eV 2) (eOp dAdd (eOp dIx (eOix 1 (eUn dNeg (eC (.int 1)))) (eC (.int 1))) (eC (.int 1)))))) (sSetL 1 (eUn dNeg (eC (.int 1))) (eTup (lCons (eOp dIx (eOix 1 (eUn dNeg (eC (.int 1)))) (eC (.int 0))) (lCons (eCB gMax (lCons (eV 3) (lCons (eOp dIx (eOix 1 (eUn dNeg (eC (.int 1)))) (eC (.int 1))) lNil))) lNil)))) (sApp 1 (eTup (lCons (eV 2) (lCons (eV 3) lNil)))))
    (fun p : Pr => (Datum.toD p : D)) jstep (fun acc rest ss => RJ (Datum.toD ps) acc rest ss ∧ ∀ p ∈ rest, p.1 ≤ p.2) (fun acc p r ss hR => by
      obtain ⟨⟨⟨x, y, rfl⟩, hb⟩, hpp⟩ := hR
      have hp := hpp p List.mem_cons_self
      rw [List.length_cons] at hb
      refine ⟨[.imm (Datum.toD ps), .own (.lst (acc.reverse.map Datum.toD)), .imm (.int p.1), .imm (.int p.2)], ?_⟩
      cases acc with
      | nil =>
        have hn : dNe (.list []) (.list []) = some (.bool false) := ne_dat ([] : List Pr) []
        refine ⟨_, by simp [sp_D], ?_, ⟨⟨.imm (.int p.1), .imm (.int p.2), rfl⟩, ?_⟩, fun q hq => hpp q (List.mem_cons_of_mem _ hq)⟩
        · simp [hn, hp, jstep, sp_D]
        · simp [jstep, hp]
          simp at hb
          omega
      | cons q t =>
        have hn : dNe (.list ((t.reverse ++ [q]).map Datum.toD)) (.list []) = some (.bool true) := (ne_dat (t.reverse ++ [q]) []).trans (by simp)
        rw [List.length_cons] at hb
        have hix : ixN (t.length + 1) (-1) = some t.length := by
          have := q_ixL q t.reverse
          simpa using this
        by_cases hj : p.1 ≤ q.2 + 1
        · refine ⟨_, by simp [sp_D], ?_, ⟨⟨.imm (.int p.1), .imm (.int p.2), rfl⟩, ?_⟩, fun q hq => hpp q (List.mem_cons_of_mem _ hq)⟩
          · simp [sp_D] at hn
            have hm : (if p.2 < q.2 then q.2 else p.2) = if q.2 < p.2 then p.2 else q.2 := by
              repeat' split
              all_goals omega
            simp [hn, hj, jstep, sp_D, hix, hm]
          · simp [jstep, hj]
            omega
        · refine ⟨_, by simp [sp_D], ?_, ⟨⟨.imm (.int p.1), .imm (.int p.2), rfl⟩, ?_⟩, fun q hq => hpp q (List.mem_cons_of_mem _ hq)⟩
          · simp [sp_D] at hn
            simp [hn, hj, hp, jstep, sp_D]
            omega
          · simp [jstep, hj, hp]
            omega) (srt ps) [] [.imm (Datum.toD ps), .own (.lst []), .un, .un] ⟨⟨⟨.un, .un, rfl⟩, by simp [hq]; exact hl⟩, fun p h => hp p ((srt_perm ps).mem_iff.mp h)⟩
  have hc := comp_map (vs := [2, 3]) (g := gTup 2 (gCons (gN 2) (gCons (gN 3) gNil))) (t := bYes) (e := eTup (lCons (eCall F__law_at (aCons (eV 2) aNil)) (lCons (eCall F__law_at (aCons (eV 3) aNil)) lNil)))
    (ss := [.imm (Datum.toD ps), .imm (.list ((join (srt ps)).map Datum.toD)), .un, .un]) (fun p : Pr => (Datum.toD p : D)) (fun _ => true) (fun p => (.tuple [Datum.toD (at_ p.1), Datum.toD (at_ p.2)] : D)) (join (srt ps)) fun p hp => by
      unfold turnF
      simp [lend, lendS, unlend, unlendS, wipeS, law_at_eq, sp_D]
  have hf : (join (srt ps)).filter (fun _ => true) = join (srt ps) := List.filter_eq_self.mpr fun _ _ => rfl
  rw [hf] at hc
  have hlen : (join (srt ps)).length ≤ 10000 := by
    unfold join
    rw [List.length_reverse]
    simpa using h2
  have hj : List.map Datum.toD (List.foldl jstep [] (srt ps)).reverse = (join (srt ps)).map Datum.toD := rfl
  simp only [List.replicate] 
  simp [hs, h1, wipeS, backS, backF, keepS]
  rw [← List.map_reverse, hj, hc]
  simp
  rw [if_pos (by omega)]
  simp [backS, backF, keepS]
  rw [ra_eq]
theorem pick_is : F__law_pick = F_pick := rfl
theorem deck_is : F__law_deck = F_deck := rfl
theorem ix4 (r k : Int) (h0 : 0 ≤ r) (h1 : r < 100) (k0 : 0 ≤ k) (k1 : k < 4) : ∃ v : Int, 0 ≤ v ∧ v ≤ 99 ∧ atI [(.int 0 : D), .int 1, .int 99, .int r] k = some (.int v) := by
  have : k = 0 ∨ k = 1 ∨ k = 2 ∨ k = 3 := by omega
  rcases this with rfl | rfl | rfl | rfl
  · exact ⟨0, by decide, by decide, rfl⟩
  · exact ⟨1, by decide, by decide, rfl⟩
  · exact ⟨99, by decide, by decide, rfl⟩
  · exact ⟨r, h0, by omega, rfl⟩
theorem edition_ok {n : Nat} {o : O} (h : Deck n o) (hn : n ≤ 90000) : ∃ (x y z : Int) (u : O), rv1 F__law_edition o = some (Datum.toD (T3.mk x y z), u) ∧ (0 ≤ x ∧ x ≤ 99) ∧ (0 ≤ y ∧ y ≤ 99) ∧ (0 ≤ z ∧ z ≤ 99) ∧ Deck (n + 5) u := by
  obtain ⟨w, u1, e1, w0, w1, d1⟩ := pick_spec (m := 5) h (by omega) (by decide) (by decide)
  unfold F__law_edition
  rw [q_rv1]
  unfold B__law_edition

  by_cases hw : w < 4
  · obtain ⟨x, u2, e2, x0, x1, d2⟩ := pick_spec (m := 3) d1 (by omega) (by decide) (by decide)
    obtain ⟨y, u3, e3, y0, y1, d3⟩ := pick_spec (m := 2) d2 (by omega) (by decide) (by decide)
    refine ⟨x, y, 0, u3, ?_, by omega, by omega, by omega, d3.mono (by omega)⟩
    simp [q_r2, pick_is, e1, e2, e3, hw, ed_D]
  · obtain ⟨r, u2, e2, r0, r1, d2⟩ := pick_spec (m := 100) d1 (by omega) (by decide) (by decide)
    obtain ⟨i, u3, e3, i0, i1, d3⟩ := pick_spec (m := 4) d2 (by omega) (by decide) (by decide)
    obtain ⟨j, u4, e4, j0, j1, d4⟩ := pick_spec (m := 4) d3 (by omega) (by decide) (by decide)
    obtain ⟨k, u5, e5, k0, k1, d5⟩ := pick_spec (m := 4) d4 (by omega) (by decide) (by decide)
    obtain ⟨x, x0, x1, ex⟩ := ix4 r i r0 r1 i0 i1
    obtain ⟨y, y0, y1, ey⟩ := ix4 r j r0 r1 j0 j1
    obtain ⟨z, z0, z1, ez⟩ := ix4 r k r0 r1 k0 k1
    refine ⟨x, y, z, u5, ?_, ⟨x0, x1⟩, ⟨y0, y1⟩, ⟨z0, z1⟩, d5.mono (by omega)⟩
    simp [q_r2, pick_is, e1, e2, e3, e4, e5, hw, ed_D, ex, ey, ez]
theorem law_place_eq {x y z : Int} (hx : 0 ≤ x ∧ x ≤ 99) (hy : 0 ≤ y ∧ y ≤ 99) (hz : 0 ≤ z ∧ z ≤ 99) : ev1 F__law_place (Datum.toD (T3.mk x y z)) = some (.int (x * 10000 + y * 100 + z)) := by
  have e : (T3.mk x y z : Ed) = at_ (x * 10000 + y * 100 + z) := by
    unfold at_
    congr 1 <;> omega
  rw [e]
  exact law_place_at _ (by omega) (by omega)
theorem place_ok {n : Nat} {o : O} (h : Deck n o) (hn : n ≤ 90000) : ∃ (d : D) (p : Int) (u : O), rv1 F__law_edition o = some (d, u) ∧ ev1 F__law_place d = some (.int p) ∧ 0 ≤ p ∧ p ≤ 999999 ∧ Deck (n + 5) u := by
  obtain ⟨x, y, z, u, e, hx, hy, hz, d⟩ := edition_ok h hn
  exact ⟨_, _, u, e, law_place_eq hx hy hz, by omega, by omega, d⟩
theorem srt2 (p q : Int) : ∃ a b : Int, gSorted [.list [.int p, .int q]] = some (.lst [.int a, .int b]) ∧ a ≤ b ∧ (a = p ∧ b = q ∨ a = q ∧ b = p) := by
  have h := srt_dat [p, q] (int_kind _)
  have hp := srt_perm [p, q]
  have hw := srt_pair [p, q]
  have hl := hp.length_eq
  match e : srt [p, q], hl with
  | [a, b], _ =>
    rw [e] at h hp hw
    refine ⟨a, b, h, ?_, ?_⟩
    · have := (List.pairwise_cons.mp hw).1 b List.mem_cons_self
      have := of_decide_eq_false (show decide (b < a) = false from this)
      omega
    · have ha := hp.mem_iff.mp (List.mem_cons_self (a := a) (l := [b]))
      rcases List.mem_cons.mp ha with rfl | ha
      · have := hp.cons_inv
        exact .inl ⟨rfl, by simpa using this⟩
      · have ha := List.mem_singleton.mp ha
        subst ha
        have := (hp.trans (List.Perm.swap _ _ _)).cons_inv
        exact .inr ⟨rfl, by simpa using this⟩
end G

set_option maxHeartbeats 1000000
namespace G
open PySem Dt Dm Dk Rn
open L2 (atI ixN)
open PySem.W (Datum DatumOrd Tup T3 T4)
theorem ra1 (a b : Int) : ra [(a, b)] = .tuple [.tuple [Datum.toD (at_ a), Datum.toD (at_ b)]] := rfl
theorem at0 : (Datum.toD (at_ 0) : D) = .tuple [.int 0, .int 0, .int 0] := rfl
theorem at9 : (Datum.toD (at_ 999999) : D) = .tuple [.int 99, .int 99, .int 99] := rfl
theorem rg1 {a b : Int} (h0 : 0 ≤ a) (h1 : a ≤ b) (h2 : b ≤ 999999) : Rg 3 [(a, b)] := ⟨⟨h0, h1, h2, trivial⟩, by simp⟩
theorem law_span_ok {n : Nat} {o : O} (h : Deck n o) (hn : n ≤ 10000) : ∃ (ps : List Pr) (u : O), rv1 F__law_span o = some (ra ps, u) ∧ Rg 3 ps ∧ Deck (n + 20) u := by
  obtain ⟨w, u1, e1, w0, w1, d1⟩ := pick_spec (m := 9) h (by omega) (by decide) (by decide)
  obtain ⟨p1, x, u2, e2, q2, x0, x1, d2⟩ := place_ok d1 (by omega)
  obtain ⟨p2, y, u3, e3, q3, y0, y1, d3⟩ := place_ok d2 (by omega)
  obtain ⟨a, b, es, hab, hh⟩ := srt2 x y
  have ha0 : 0 ≤ a := by omega
  have hb9 : b ≤ 999999 := by omega
  unfold F__law_span
  rw [q_rv1]
  unfold B__law_span

  by_cases h3 : w < 3
  · refine ⟨[(0, 999999)], u3, ?_, rg1 (by decide) (by decide) (by decide), d3.mono (by omega)⟩
    simp [q_r2, pick_is, e1, e2, e3, q2, q3, es, h3, ra1, at0, at9]
  by_cases h4 : w = 3
  · refine ⟨[(a, 999999)], u3, ?_, rg1 ha0 (by omega) (by decide), d3.mono (by omega)⟩
    simp [q_r2, pick_is, e1, e2, e3, q2, q3, es, h4, ra1, at0, at9, law_at_eq]
  by_cases h5 : w = 4
  · refine ⟨[(0, b)], u3, ?_, rg1 (by decide) (by omega) hb9, d3.mono (by omega)⟩
    simp [q_r2, pick_is, e1, e2, e3, q2, q3, es, h5, ra1, at0, at9, law_at_eq]
  by_cases h7 : w < 7
  · refine ⟨[(a, b)], u3, ?_, rg1 ha0 hab hb9, d3.mono (by omega)⟩
    simp [q_r2, pick_is, e1, e2, e3, q2, q3, es, h3, h4, h5, h7, ra1, law_at_eq]
  by_cases h8 : w = 7
  · obtain ⟨p3, z, u4, e4, q4, z0, z1, d4⟩ := place_ok d3 (by omega)
    obtain ⟨r, u5, e5, r0, r1, d5⟩ := pick_spec (m := 300) d4 (by omega) (by decide) (by decide)
    generalize hm : (if z + r < 999999 then z + r else 999999) = m
    have m0 : z ≤ m := by rw [← hm]; split <;> omega
    have m1 : m ≤ 999999 := by rw [← hm]; split <;> omega
    have hj := law_joined_eq [(a, a), (b, b), (z, m)] (by simp) (by simp; omega)
    have e0 : (Datum.toD [((a, a) : Pr), (b, b), (z, m)] : D) = .list [.tuple [.int a, .int a], .tuple [.int b, .int b], .tuple [.int z, .int m]] := rfl
    rw [e0] at hj
    obtain ⟨j1, _⟩ := join_srt (n := 3) (ps := [(a, a), (b, b), (z, m)]) (by simp; omega) (by simp)
    refine ⟨_, u5, ?_, j1, d5.mono (by omega)⟩
    simp [q_r2, pick_is, e1, e2, e3, q2, q3, es, h8, e4, q4, e5, hm, hj]
  · obtain ⟨r, u4, e4, r0, r1, d4⟩ := pick_spec (m := 2) d3 (by omega) (by decide) (by decide)
    have : r = 0 ∨ r = 1 := by omega
    rcases this with rfl | rfl
    · have hj := law_joined_eq [] (by decide) (fun p hp => nomatch hp)
      have e0 : (Datum.toD ([] : List Pr) : D) = .list [] := rfl
      rw [e0] at hj
      have em : dMul (.list [.tuple [.int a, .int b]]) (.int 0) = some (.list []) := rfl
      obtain ⟨j1, _⟩ := join_srt (n := 3) (ps := []) (fun p hp => nomatch hp) (by decide)
      refine ⟨_, u4, ?_, j1, d4.mono (by omega)⟩
      simp [q_r2, pick_is, e1, e2, e3, q2, q3, es, h3, h4, h5, h7, h8, e4, em, hj]
    · have hj := law_joined_eq [(a, b)] (by simp) (by simp; omega)
      have e0 : (Datum.toD [((a, b) : Pr)] : D) = .list [.tuple [.int a, .int b]] := rfl
      rw [e0] at hj
      have em : dMul (.list [.tuple [.int a, .int b]]) (.int 1) = some (.list [.tuple [.int a, .int b]]) := rfl
      obtain ⟨j1, _⟩ := join_srt (n := 3) (ps := [(a, b)]) (by simp; omega) (by simp)
      refine ⟨_, u4, ?_, j1, d4.mono (by omega)⟩
      simp [q_r2, pick_is, e1, e2, e3, q2, q3, es, h3, h4, h5, h7, h8, e4, em, hj]
theorem ne_same (c : List Pr) : dNe (ra c) (ra c) = some (.bool false) := (ne_dat (rt c) (rt c)).trans (by simp)
theorem q_par3 (i j k : Nat) (x y z : D) (f : FL) (ss s1 : SS) (h : f ss = .ok [x, y, z] s1) (hl : ([i, j, k].all fun i => decide (i < s1.length)) = true) : sPar [i, j, k] f ss = .nx (((s1.set i (.imm x)).set j (.imm y)).set k (.imm z)) := by
  unfold sPar
  rw [h]
  simp only
  rw [if_pos ⟨rfl, hl⟩]
  rfl
theorem ne_bool (a b : Bool) : dNe (.bool a) (.bool b) = some (.bool (!decide (a = b))) := ne_dat a b
theorem eq_ra (c d : List Pr) : dEq (ra c) (ra d) = some (.bool (decide (rt c = rt d))) := eq_dat (rt c) (rt d)
end G

set_option maxHeartbeats 1000000
/-! k03: what the law reckons of ranges. -/
namespace G
open PySem Dt Dm Dk Rn
open L2 (atI ixN)
open PySem.W (Datum DatumOrd Tup T3 T4)
theorem le_at {p q : Int} (p0 : 0 ≤ p) (p1 : p ≤ 999999) (q0 : 0 ≤ q) (q1 : q ≤ 999999) : dLe (Datum.toD (at_ p)) (Datum.toD (at_ q)) = some (.bool (decide (p ≤ q))) := by
  rw [le_dat]
  congr 2
  show (!(if q / 10000 = p / 10000 then (if q / 100 % 100 = p / 100 % 100 then decide (q % 100 < p % 100) else decide (q / 100 % 100 < p / 100 % 100)) else decide (q / 10000 < p / 10000))) = _
  rw [Bool.eq_iff_iff]
  repeat' split
  all_goals simp
  all_goals omega
theorem gt_at {p q : Int} (p0 : 0 ≤ p) (p1 : p ≤ 999999) (q0 : 0 ≤ q) (q1 : q ≤ 999999) : dGt (Datum.toD (at_ p)) (Datum.toD (at_ q)) = some (.bool (decide (q < p))) := by
  rw [gt_dat]
  congr 2
  show (if q / 10000 = p / 10000 then (if q / 100 % 100 = p / 100 % 100 then decide (q % 100 < p % 100) else decide (q / 100 % 100 < p / 100 % 100)) else decide (q / 10000 < p / 10000)) = _
  rw [Bool.eq_iff_iff]
  repeat' split
  all_goals simp
  all_goals omega
theorem any_mem (a : List Pr) (x : Int) : (a.any fun p => decide (p.1 ≤ x) && decide (x ≤ p.2)) = decide (Mem a x) := by
  rw [Bool.eq_iff_iff, decide_eq_true_eq, List.any_eq_true]
  simp [Mem]
theorem ra_map (ps : List Pr) : ra ps = .tuple (ps.map fun p => .tuple [Datum.toD (at_ p.1), Datum.toD (at_ p.2)]) := ra_eq ps
theorem has_eq {n : Nat} {a : List Pr} (ha : Rg n a) (hn : n ≤ 9000) (x : Int) (h0 : 0 ≤ x) (h1 : x ≤ 999999) : ev2 F_has (ra a) (Datum.toD (at_ x)) = some (.bool (decide (Mem a x))) := by
  unfold F_has
  rw [q_ev2]
  unfold B_has
  have l1 := ha.len
  simp [-q_nLc]
  rw [nLc_pure (fun p : Pr => (.tuple [Datum.toD (at_ p.1), Datum.toD (at_ p.2)] : D)) (fun p => .bool (decide (p.1 ≤ x) && decide (x ≤ p.2))) a ?hs ?h ?hl]
  case hs => simp [ra_map]
  case h =>
    intro p hp
    have := can_all ha.can (Int.le_refl _) p hp
    have e1 := le_at (p := p.1) (q := x) (by omega) (by omega) h0 h1
    have e2 := le_at (p := x) (q := p.2) h0 h1 (by omega) (by omega)
    unfold turnF
    by_cases c : p.1 ≤ x <;> simp [lend, lendS, unlend, unlendS, wipeS, e1, e2, c]
  case hl => rw [q_size]; omega
  rw [← any_mem]
  simp [wipeS, backS, backF, keepS, mapM_asB _ _ (fun p : Pr => rfl), Function.comp_def]
theorem law_in_eq {n : Nat} {a : List Pr} (ha : Rg n a) (hn : n ≤ 9000) (x : Int) : ev2 F__law_in (ra a) (.int x) = some (.bool (decide (Mem a x))) := by
  unfold F__law_in
  rw [q_ev2]
  unfold B__law_in
  have l1 := ha.len
  simp [-q_nLc]
  rw [nLc_filt (fun p : Pr => (.tuple [Datum.toD (at_ p.1), Datum.toD (at_ p.2)] : D)) (fun p => decide (p.1 ≤ x) && decide (x ≤ p.2)) (fun p => Datum.toD ((at_ p.1, at_ p.2) : Ed × Ed)) a ?hs ?h ?hl]
  case hs => simp [ra_map]
  case h =>
    intro p hp
    have := can_all ha.can (Int.le_refl _) p hp
    have e1 := law_place_at p.1 (by omega) (by omega)
    have e2 := law_place_at p.2 (by omega) (by omega)
    unfold turnF
    by_cases c : p.1 ≤ x <;> by_cases c2 : x ≤ p.2 <;> simp [lend, lendS, unlend, unlendS, wipeS, e1, e2, c, c2, ep_D]
  case hl => rw [q_size]; omega
  have hne := ne_dat ((a.filter fun p => decide (p.1 ≤ x) && decide (x ≤ p.2)).map fun p => ((at_ p.1, at_ p.2) : Ed × Ed)) []
  have e0 : (Datum.toD ((a.filter fun p => decide (p.1 ≤ x) && decide (x ≤ p.2)).map fun p => ((at_ p.1, at_ p.2) : Ed × Ed)) : D) = .list ((a.filter fun p => decide (p.1 ≤ x) && decide (x ≤ p.2)).map fun p => Datum.toD ((at_ p.1, at_ p.2) : Ed × Ed)) := by
    show PyData.list (List.map _ (List.map _ _)) = _
    rw [List.map_map]; rfl
  have e1 : (Datum.toD ([] : List (Ed × Ed)) : D) = .list [] := rfl
  rw [e0, e1] at hne
  simp [wipeS, backS, backF, keepS, hne]
  rw [← any_mem, Bool.eq_iff_iff]
  simp
theorem law_ed_ok (x : Int) (h0 : 0 ≤ x) (h1 : x ≤ 999999) : ev1 F__law_is_edition (Datum.toD (at_ x)) = some (.bool true) := by
  unfold F__law_is_edition
  rw [q_ev1]
  unfold B__law_is_edition at_
  rw [ed_D]
  have w : ∀ i : Int, ev1 F__law_whole (.int i) = some (.bool true) := fun i => by
    unfold F__law_whole
    rw [q_ev1]
    unfold B__law_whole
    simp
  have a1 : 0 ≤ x / 10000 := by omega
  have a2 : x / 10000 ≤ 99 := by omega
  have b1 : 0 ≤ x / 100 % 100 := by omega
  have b2 : x / 100 % 100 ≤ 99 := by omega
  have c1 : 0 ≤ x % 100 := by omega
  have c2 : x % 100 ≤ 99 := by omega
  have hd : dEq (.list []) (.list []) = some (.bool true) := eq_dat ([] : List Int) []
  simp [compF, turnF, lend, lendS, unlend, unlendS, wipeS, w, a1, a2, b1, b2, c1, c2, backS, backF, keepS, hd]
theorem law_rg_ok {n : Nat} {a : List Pr} (ha : Rg n a) (hn : n ≤ 9000) : ev1 F__law_is_range (ra a) = some (.bool true) := by
  unfold F__law_is_range
  rw [q_ev1, ra_map]
  unfold B__law_is_range
  simp
  generalize hL : loopF _ _ _ _ = o
  obtain ⟨s2, rfl, l, v2, rfl, _⟩ := loop_invE hL (fun rest ss => ∃ l v2, ss = [.imm (ra a), .imm (.int l), v2] ∧ Can (l + 2) 999999 rest ∧ -2 ≤ l) ⟨-2, _, by rw [ra_map], by simpa using ha.can, by decide⟩ fun p rest ss hR => by
    obtain ⟨l, v2, rfl, ⟨c1, c2, c3, c4⟩, hl⟩ := hR
    have e1 := law_place_at p.1 (by omega) (by omega)
    have e2 := law_place_at p.2 (by omega) (by omega)
    have g1 := law_ed_ok p.1 (by omega) (by omega)
    have g2 := law_ed_ok p.2 (by omega) (by omega)
    have hg := gt_at (p := p.1) (q := p.2) (by omega) (by omega) (by omega) (by omega)
    have n1 : ¬ p.2 < p.1 := by omega
    have n2 : ¬ p.1 < l + 2 := by omega
    refine ⟨[.imm (ra a), .imm (.int l), .imm (.tuple [Datum.toD (at_ p.1), Datum.toD (at_ p.2)])], [.imm (ra a), .imm (.int p.2), .imm (.tuple [Datum.toD (at_ p.1), Datum.toD (at_ p.2)])], by simp, .inl ?_, p.2, _, rfl, c4, by omega⟩
    simp [e1, e2, g1, g2, hg, n1, n2]
  simp
end G

set_option maxHeartbeats 1000000
/-! k03: the places, what is drawn. -/
namespace G
open PySem Dt Dm Dk Rn
open L2 (atI ixN)
open PySem.W (Datum DatumOrd Tup T3 T4)
def nearf (fs : List Int) (p : Pr) : List Int := fs ++ [p.1 + -1, p.1 + 0, p.1 + 1] ++ [p.2 + -1, p.2 + 0, p.2 + 1]
theorem near_len : ∀ (a : List Pr) (fs : List Int), (a.foldl nearf fs).length = fs.length + 6 * a.length
  | [], fs => by simp
  | p :: a, fs => by
    rw [List.foldl_cons, near_len a, List.length_cons]
    simp [nearf]
    omega
theorem near_mem (x : Int) : ∀ (a : List Pr) (fs : List Int), x ∈ a.foldl nearf fs ↔ x ∈ fs ∨ ∃ p ∈ a, x ∈ [p.1 + -1, p.1 + 0, p.1 + 1] ++ [p.2 + -1, p.2 + 0, p.2 + 1]
  | [], fs => by simp
  | p :: a, fs => by
    rw [List.foldl_cons, near_mem x a]
    unfold nearf
    rw [List.append_assoc, List.mem_append, or_assoc]
    refine or_congr_right ⟨fun h => ?_, fun h => ?_⟩
    · rcases h with h | ⟨q, hq, h⟩
      · exact ⟨p, List.mem_cons_self, h⟩
      · exact ⟨q, List.mem_cons_of_mem _ hq, h⟩
    · obtain ⟨q, hq, h⟩ := h
      rcases List.mem_cons.mp hq with rfl | hq
      · exact .inl h
      · exact .inr ⟨q, hq, h⟩
theorem near_inner {n : Nat} {a : List Pr} (ha : Rg n a) (hn : n ≤ 900) (S' : D) (v3 v4 : Sl) (fs : List Int) (hf : fs.length ≤ 9000) :
    ∃ v3' v4', S__law_near_1_0 [.imm S', .imm (.list (fs.map .int)), .imm (ra a), v3, v4, .un, .un, .un, .un] = .nx [.imm S', .imm (.list ((a.foldl nearf fs).map .int)), .imm (ra a), v3', v4', .un, .un, .un, .un] := by
  have l1 := ha.len
  have hi : lSeq (eV 2) [.imm S', .imm (.list (fs.map .int)), .imm (ra a), v3, v4, .un, .un, .un, .un] = .ok (a.map fun p => .tuple [Datum.toD (at_ p.1), Datum.toD (at_ p.2)]) [.imm S', .imm (.list (fs.map .int)), .imm (ra a), v3, v4, .un, .un, .un, .un] := by simp [ra_map]
  simp only [S__law_near_1_0, q_sFor, hi]
  generalize hL : loopF _ _ _ _ = o
  obtain ⟨s2, rfl, ⟨v3', v4', rfl⟩, _⟩ := loop_restE hL nearf (fun fs rest ss => (∃ v3 v4, ss = [.imm S', .imm (.list (fs.map .int)), .imm (ra a), v3, v4, .un, .un, .un, .un]) ∧ fs.length + 6 * rest.length ≤ 20000 ∧ ∀ p ∈ rest, 0 ≤ p.1 ∧ p.1 ≤ p.2 ∧ p.2 ≤ 999999) fs
    ⟨⟨_, _, rfl⟩, by omega, fun p hp => can_all ha.can (Int.le_refl _) p hp⟩ fun fs p rest ss hR => by
      obtain ⟨⟨v3, v4, rfl⟩, hb, hp⟩ := hR
      rw [List.length_cons] at hb
      have := hp p List.mem_cons_self
      have e1 := law_place_at p.1 (by omega) (by omega)
      have e2 := law_place_at p.2 (by omega) (by omega)
      refine ⟨[.imm S', .imm (.list (fs.map .int)), .imm (ra a), .imm (Datum.toD (at_ p.1)), .imm (Datum.toD (at_ p.2)), .un, .un, .un, .un], [.imm S', .imm (.list ((nearf fs p).map .int)), .imm (ra a), .imm (Datum.toD (at_ p.1)), .imm (Datum.toD (at_ p.2)), .un, .un, .un, .un], by simp, ?_, ⟨_, _, rfl⟩, ?_, fun q hq => hp q (List.mem_cons_of_mem _ hq)⟩
      · have b1 : fs.length + 3 ≤ 16777216 := by omega
        have b2 : fs.length + 3 + 3 ≤ 16777216 := by omega
        simp [e1, e2, b1, b2, nearf]
      · simp [nearf]
        omega
  exact ⟨v3', v4', rfl⟩
theorem insU_len (x : Int) : ∀ l : List Int, (insU x l).length ≤ l.length + 1
  | [] => by simp [insU]
  | y :: r => by
    have := insU_len x r
    unfold insU
    split
    · simp
    · split
      · simp
      · simp; omega
theorem uset_len : ∀ l : List Int, (uset l).length ≤ l.length
  | [] => Nat.le_refl _
  | y :: r => by
    have := insU_len y (uset r)
    have := uset_len r
    show (insU y (uset r)).length ≤ _
    rw [List.length_cons]; omega
structure Near (a b : List Pr) (ps : List Int) : Prop where
  lo : ∀ x ∈ ps, 0 ≤ x ∧ x ≤ 999999
  has : ∀ p, p ∈ a ∨ p ∈ b → p.1 ∈ ps ∧ p.2 ∈ ps ∧ (p.2 + 1 ≤ 999999 → p.2 + 1 ∈ ps)
  len : ps.length ≤ 200
def mids (us : List Int) : List Int := List.zipWith (fun x y => (x + y) / 2) us (us.drop 1)
theorem mids_mem : ∀ (us : List Int), (∀ x ∈ us, 0 ≤ x ∧ x ≤ 999999) → ∀ x ∈ mids us, 0 ≤ x ∧ x ≤ 999999
  | [], _, x, hx => by simp [mids] at hx
  | [y], _, x, hx => by simp [mids] at hx
  | y :: z :: us, h, x, hx => by
    have hy := h y List.mem_cons_self
    have hz := h z (List.mem_cons_of_mem _ List.mem_cons_self)
    have e : mids (y :: z :: us) = (y + z) / 2 :: mids (z :: us) := rfl
    rw [e] at hx
    rcases List.mem_cons.mp hx with rfl | hx
    · omega
    · exact mids_mem (z :: us) (fun w hw => h w (List.mem_cons_of_mem _ hw)) x hx
theorem law_near_eq {a b : List Pr} (ha : Rg 5 a) (hb : Rg 5 b) : ∃ ps : List Int, ev1 F__law_near (.list [ra a, ra b]) = some (.list (ps.map .int)) ∧ Near a b ps := by
  have l1 := ha.len
  have l2 := hb.len
  generalize hus : uset ((b.foldl nearf (a.foldl nearf [0, 999999])).filter fun x => decide (0 ≤ x) && decide (x ≤ 999999)) = us
  have hm : ∀ x, x ∈ us ↔ (x ∈ b.foldl nearf (a.foldl nearf [0, 999999]) ∧ 0 ≤ x ∧ x ≤ 999999) := fun x => by
    rw [← hus, uset_mem, List.mem_filter]; simp
  have hfl : (b.foldl nearf (a.foldl nearf [0, 999999])).length ≤ 62 := by
    rw [near_len, near_len]; simp; omega
  have hlo : ∀ x ∈ us, 0 ≤ x ∧ x ≤ 999999 := fun x hx => ((hm x).mp hx).2
  have husl : us.length ≤ 62 := by
    rw [← hus]
    refine Nat.le_trans (uset_len _) (Nat.le_trans (List.length_filter_le _ _) hfl)
  have hml : (mids us).length ≤ 62 := by
    unfold mids; rw [List.length_zipWith]; omega
  refine ⟨us ++ mids us, ?_, ⟨fun x hx => ?_, fun p hp => ?_, by rw [List.length_append]; omega⟩⟩
  · generalize hS' : (PyData.list [ra a, ra b] : D) = S'
    generalize hS : Sl.imm S' = S
    obtain ⟨v3, v4, h1⟩ := near_inner ha (by decide) S' .un .un [0, 999999] (by decide)
    obtain ⟨w3, w4, h2⟩ := near_inner hb (by decide) S' v3 v4 (a.foldl nearf [0, 999999]) (by rw [near_len]; simp; omega)
    rw [hS] at h1 h2
    have k0 : S__law_near_0 [S, .un, .un, .un, .un, .un, .un, .un, .un] = .nx [S, .imm (.list (([0, 999999] : List Int).map .int)), .un, .un, .un, .un, .un, .un, .un] := by simp
    have k1 : S__law_near_1 [S, .imm (.list (([0, 999999] : List Int).map .int)), .un, .un, .un, .un, .un, .un, .un] = .nx [S, .imm (.list ((b.foldl nearf (a.foldl nearf [0, 999999])).map .int)), .imm (ra b), w3, w4, .un, .un, .un, .un] := by
      have hi : lSeq (eV 0) [S, .imm (.list (([0, 999999] : List Int).map .int)), .un, .un, .un, .un, .un, .un, .un] = .ok [ra a, ra b] [S, .imm (.list (([0, 999999] : List Int).map .int)), .un, .un, .un, .un, .un, .un, .un] := by rw [← hS, ← hS']; simp
      simp only [S__law_near_1, q_sFor, hi]
      generalize S__law_near_1_0 = f at *
      simp only [loopF]
      simp [List.map_cons] at h1
      simp [h1, h2]
    generalize b.foldl nearf (a.foldl nearf [0, 999999]) = fs at *
    have hfil : (fs.filter fun x => decide (0 ≤ x) && decide (x ≤ 999999)).length < 64 := Nat.lt_of_le_of_lt (Nat.le_trans (List.length_filter_le _ _) hfl) (by decide)
    have k2 : S__law_near_2 [S, .imm (.list (fs.map .int)), .imm (ra b), w3, w4, .un, .un, .un, .un] = .nx [S, .imm (.list (us.map .int)), .imm (ra b), w3, w4, .un, .un, .un, .un] := by
      simp only [S__law_near_2, q_sAsg, q_eFz, nSS]
      rw [nLc_filt (fun x : Int => (.int x : D)) (fun x => decide (0 ≤ x) && decide (x ≤ 999999)) (fun x => .int x) fs ?hs ?h ?hl]
      case hs => simp
      case h =>
        intro x hx
        unfold turnF
        by_cases c : 0 ≤ x <;> by_cases c2 : x ≤ 999999 <;> simp [← hS, c, c2]
      case hl => rw [q_size]; omega
      simp only [q_bind_ok, q_toD_l, mapM_ints, if_pos hfil, hus]
      simp
    have k3 : S__law_near_3 [S, .imm (.list (us.map .int)), .imm (ra b), w3, w4, .un, .un, .un, .un] = .rt (.imm (.list ((us ++ mids us).map .int))) [S, .imm (.list (us.map .int)), .imm (ra b), w3, w4, .un, .un, .un, .un] := by
      simp [-q_nLc]
      rw [nLc_pure (fun p : Int × Int => (.tuple [.int p.1, .int p.2] : D)) (fun p => .int ((p.1 + p.2) / 2)) (us.zip (us.drop 1)) ?hs ?h ?hl]
      case hs =>
        simp
        rw [← List.map_tail]
        exact zip_map PyData.int PyData.int us us.tail
      case h =>
        intro x hx
        simp [← hS, div_int]
      case hl => rw [q_size, List.length_zip]; omega
      have e : (us.zip (us.drop 1)).map (fun p => (.int ((p.1 + p.2) / 2) : D)) = (mids us).map .int := by
        unfold mids
        rw [List.zip, List.map_zipWith, List.map_zipWith]
      rw [e]
      have hle : us.length + (mids us).length ≤ 16777216 := by omega
      simp [hle]
    have kB : B__law_near [S, .un, .un, .un, .un, .un, .un, .un, .un] = .rt (.imm (.list ((us ++ mids us).map .int))) [S, .imm (.list (us.map .int)), .imm (ra b), w3, w4, .un, .un, .un, .un] := by
      unfold B__law_near
      rw [seq_nx k0, seq_nx k1, seq_nx k2, k3]
    unfold F__law_near
    rw [q_ev1]
    show fin 1 (B__law_near [.imm S', .un, .un, .un, .un, .un, .un, .un, .un]) = _
    rw [hS, kB]
    rfl
  · rcases List.mem_append.mp hx with hx | hx
    · exact hlo x hx
    · exact mids_mem us hlo x hx
  · have hin : ∀ x, x ∈ [p.1 + -1, p.1 + 0, p.1 + 1] ++ [p.2 + -1, p.2 + 0, p.2 + 1] → 0 ≤ x → x ≤ 999999 → x ∈ us ++ mids us := fun x hx h0 h1 => by
      refine List.mem_append.mpr (.inl ((hm x).mpr ⟨?_, h0, h1⟩))
      rw [near_mem, near_mem]
      rcases hp with hp | hp
      · exact .inl (.inr ⟨p, hp, hx⟩)
      · exact .inr ⟨p, hp, hx⟩
    have hc : 0 ≤ p.1 ∧ p.1 ≤ p.2 ∧ p.2 ≤ 999999 := by
      rcases hp with hp | hp
      · exact can_all ha.can (Int.le_refl _) p hp
      · exact can_all hb.can (Int.le_refl _) p hp
    exact ⟨hin _ (by simp) (by omega) (by omega), hin _ (by simp) (by omega) (by omega), fun h => hin _ (by simp) (by omega) h⟩
end G

set_option maxHeartbeats 1000000
/-! k03: what is drawn; both laws of a pair. -/
namespace G
open PySem Dt Dm Dk Rn
open L2 (atI ixN)
open PySem.W (Datum DatumOrd Tup T3 T4)
theorem many_turn (v2 v3 : Sl) {n : Nat} {o : O} (h : Deck n o) (hn : n ≤ 1000) (sp : List Pr) (hs : sp.length ≤ 100) (hsp : ∀ p ∈ sp, 0 ≤ p.1 ∧ p.1 ≤ p.2 ∧ p.2 ≤ 999999) :
    ∃ (u : O) (q : Pr) (d : D), Deck (n + 5) u ∧ L__law_many_1 [.bor o, .own (.lst (sp.map Datum.toD)), v2, v3] = .nx [.bor u, .own (.lst ((sp ++ [q]).map Datum.toD)), v2, .imm d] ∧ (0 ≤ q.1 ∧ q.1 ≤ q.2 ∧ q.2 ≤ 999999) := by
  obtain ⟨a, u1, e1, a0, a1, d1⟩ := pick_spec (m := 40) h (by omega) (by decide) (by decide)
  obtain ⟨b, u2, e2, b0, b1, d2⟩ := pick_spec (m := 300) d1 (by omega) (by decide) (by decide)
  obtain ⟨c, u3, e3, c0, c1, d3⟩ := pick_spec (m := 999000) d2 (by omega) (by decide) (by decide)
  obtain ⟨k, u4, e4, k0, k1, d4⟩ := pick_spec (m := 3) d3 (by omega) (by decide) (by decide)
  obtain ⟨t, u5, e5, t0, t1, d5⟩ := pick_spec (m := 12) d4 (by omega) (by decide) (by decide)
  obtain ⟨l, hl, l0, l1⟩ : ∃ l : Int, atI [(.int a : D), .int (10000 + b), .int c] k = some (.int l) ∧ 0 ≤ l ∧ l ≤ 999000 := by
    have : k = 0 ∨ k = 1 ∨ k = 2 := by omega
    rcases this with rfl | rfl | rfl
    · exact ⟨a, rfl, by omega, by omega⟩
    · exact ⟨10000 + b, rfl, by omega, by omega⟩
    · exact ⟨c, rfl, by omega, by omega⟩
  refine ⟨u5, (l, l + t), .int l, d5, ?_, by simp only; omega⟩
  have k1 : S__law_many_1_0 [.bor o, .own (.lst (sp.map Datum.toD)), v2, v3] = .nx [.bor u4, .own (.lst (sp.map Datum.toD)), v2, .imm (.int l)] := by
    simp [q_r2, pick_is, e1, e2, e3, e4, hl]
  have hb : sp.length < 16777216 := by omega
  have k2 : S__law_many_1_1 [.bor u4, .own (.lst (sp.map Datum.toD)), v2, .imm (.int l)] = .nx [.bor u5, .own (.lst ((sp ++ [(l, l + t)]).map Datum.toD)), v2, .imm (.int l)] := by
    simp [q_r2, pick_is, e5, sp_D, hb]
  unfold L__law_many_1
  rw [seq_nx k1, k2]
theorem law_many_ok {n : Nat} {o : O} (h : Deck n o) (hn : n ≤ 900) : ∃ (ps : List Pr) (u : O), rv1 F__law_many o = some (ra ps, u) ∧ Rg 4 ps ∧ Deck (n + 30) u := by
  obtain ⟨w, u1, e1, w0, w1, d1⟩ := pick_spec (m := 5) h (by omega) (by decide) (by decide)
  obtain ⟨m, rfl⟩ := Int.eq_ofNat_of_zero_le w0
  have hm : m ≤ 4 := by omega
  have k0 : S__law_many_0 [.bor o, .un, .un, .un] = .nx [.bor o, .own (.lst (([] : List Pr).map Datum.toD)), .un, .un] := by simp
  obtain ⟨u, sp, v2, v3, k1, hd, hl, hsp⟩ : ∃ (u : O) (sp : List Pr) (v2 v3 : Sl), S__law_many_1 [.bor o, .own (.lst (([] : List Pr).map Datum.toD)), .un, .un] = .nx [.bor u, .own (.lst (sp.map Datum.toD)), v2, v3] ∧ Deck (n + 30) u ∧ sp.length ≤ 4 ∧ ∀ p ∈ sp, 0 ≤ p.1 ∧ p.1 ≤ p.2 ∧ p.2 ≤ 999999 := by
    have hi : lRng1 (lCons (eCall F__law_pick (aRef 0 (aCons (eC (.int 5)) aNil))) lNil) [.bor o, .own (.lst (([] : List Pr).map Datum.toD)), .un, .un] = .ok ((List.range m).map fun i : Nat => PyData.int (0 + (i : Int))) [.bor u1, .own (.lst (([] : List Pr).map Datum.toD)), .un, .un] := by
      have hsm : small (m : Int) = true := by
        have : m = 0 ∨ m = 1 ∨ m = 2 ∨ m = 3 ∨ m = 4 := by omega
        rcases this with rfl | rfl | rfl | rfl | rfl <;> rfl
      have e : eCall F__law_pick (aRef 0 (aCons (eC (.int 5)) aNil)) [.bor o, .own (.lst (([] : List Pr).map Datum.toD)), .un, .un] = .ok (.int (m : Int)) [.bor u1, .own (.lst (([] : List Pr).map Datum.toD)), .un, .un] := by
        simp [q_r2, pick_is, e1]
      rw [q_lRng1, q_lCons, e, q_bind_ok, q_lNil, q_bind_ok, q_bind_ok]
      simp only
      rw [if_pos hsm]
      rfl
    simp only [S__law_many_1, q_sFor, hi]
    generalize hL : loopF _ _ _ _ = x
    obtain ⟨s2, rfl, u, sp, v2, v3, rfl, hd, hl, hsp⟩ := loop_invE hL (fun rest ss => ∃ (u : O) (sp : List Pr) (v2 v3 : Sl), ss = [.bor u, .own (.lst (sp.map Datum.toD)), v2, v3] ∧ Deck (n + 1 + 5 * sp.length) u ∧ sp.length + rest.length ≤ 4 ∧ ∀ p ∈ sp, 0 ≤ p.1 ∧ p.1 ≤ p.2 ∧ p.2 ≤ 999999)
      ⟨u1, [], .un, .un, rfl, d1, by simp; omega, fun p hp => nomatch hp⟩ fun i rest ss hR => by
        obtain ⟨u, sp, v2, v3, rfl, hd, hl, hsp⟩ := hR
        rw [List.length_cons] at hl
        obtain ⟨u', q, d, hd', e, hq⟩ := many_turn (.imm (.int (0 + (i : Int)))) v3 hd (by omega) sp (by omega) hsp
        refine ⟨[.bor u, .own (.lst (sp.map Datum.toD)), .imm (.int (0 + (i : Int))), v3], _, by simp, .inl e, u', sp ++ [q], _, _, rfl, hd'.mono (by simp; omega), by simp; omega, fun p hp => ?_⟩
        rcases List.mem_append.mp hp with hp | hp
        · exact hsp p hp
        · rw [List.mem_singleton.mp hp]; exact hq
    simp at hl
    exact ⟨u, sp, v2, v3, rfl, hd.mono (by omega), hl, hsp⟩
  have hj := law_joined_eq sp (by omega) fun p hp => (hsp p hp).2.1
  have k2 : S__law_many_2 [.bor u, .own (.lst (sp.map Datum.toD)), v2, v3] = .rt (.imm (ra (join (srt sp)))) [.bor u, .imm (.list (sp.map Datum.toD)), v2, v3] := by
    have e0 : (Datum.toD sp : D) = .list (sp.map Datum.toD) := rfl
    rw [e0] at hj
    simp [hj]
  obtain ⟨j1, _⟩ := join_srt (n := 4) hsp hl
  refine ⟨join (srt sp), u, ?_, j1, hd⟩
  unfold F__law_many
  rw [q_rv1]
  show finR 0 (B__law_many [.bor o, .un, .un, .un]) = _
  unfold B__law_many
  rw [seq_nx k0, seq_nx k1, k2]
  simp
theorem rg_mono {n m : Nat} {a : List Pr} (h : Rg n a) (k : n ≤ m) : Rg m a := ⟨h.can, Nat.le_trans h.len k⟩
theorem due_ok {a b : List Pr} (ha : Rg 6 a) (hb : Rg 6 b) (ps : List Int) (hp : ∀ x ∈ ps, 0 ≤ x ∧ x ≤ 999999) (hl : ps.length ≤ 300) : ev3 F__law_due_right (ra a) (ra b) (.list (ps.map .int)) = some (.bool true) := by
  obtain ⟨c, e1, rc, mc⟩ := both_ok ha hb (by decide) (by decide)
  obtain ⟨d, e2, rd, md⟩ := either_ok ha hb (by decide) (by decide)
  obtain ⟨r, e3, rr, mr⟩ := rest_ok ha (by decide)
  generalize hP : (PyData.list (ps.map .int) : D) = P
  have k0 : S__law_due_right_0 [.imm (ra a), .imm (ra b), .imm P, .un, .un, .un, .un, .un, .un, .un] = .nx [.imm (ra a), .imm (ra b), .imm P, .imm (ra c), .imm (ra d), .imm (ra r), .un, .un, .un, .un] := by
    unfold S__law_due_right_0
    rw [q_par3 3 4 5 (ra c) (ra d) (ra r) _ _ [.imm (ra a), .imm (ra b), .imm P, .un, .un, .un, .un, .un, .un, .un] (by simp [e1, e2, e3]) (by simp)]
    rfl
  have k1 : S__law_due_right_1 [.imm (ra a), .imm (ra b), .imm P, .imm (ra c), .imm (ra d), .imm (ra r), .un, .un, .un, .un] = .nx [.imm (ra a), .imm (ra b), .imm P, .imm (ra c), .imm (ra d), .imm (ra r), .un, .un, .un, .un] := by
    have h1 := law_rg_ok rc (by decide)
    have h2 := law_rg_ok rd (by decide)
    have h3 := law_rg_ok rr (by decide)
    have hd : dNe (.list []) (.list []) = some (.bool false) := ne_dat ([] : List Int) []
    simp [h1, h2, h3, hd]
  obtain ⟨v6, v7, v8, k2⟩ : ∃ v6 v7 v8 : Sl, S__law_due_right_2 [.imm (ra a), .imm (ra b), .imm P, .imm (ra c), .imm (ra d), .imm (ra r), .un, .un, .un, .un] = .nx [.imm (ra a), .imm (ra b), .imm P, .imm (ra c), .imm (ra d), .imm (ra r), v6, v7, v8, .un] := by
    have hi : lSeq (eV 2) [.imm (ra a), .imm (ra b), .imm P, .imm (ra c), .imm (ra d), .imm (ra r), .un, .un, .un, .un] = .ok (ps.map .int) [.imm (ra a), .imm (ra b), .imm P, .imm (ra c), .imm (ra d), .imm (ra r), .un, .un, .un, .un] := by rw [← hP]; simp
    simp only [S__law_due_right_2, q_sFor, hi]
    generalize hL : loopF _ _ _ _ = x
    obtain ⟨s2, rfl, ⟨v6, v7, v8, rfl⟩, _⟩ := loop_invE hL (fun rest ss => (∃ v6 v7 v8 : Sl, ss = [.imm (ra a), .imm (ra b), .imm P, .imm (ra c), .imm (ra d), .imm (ra r), v6, v7, v8, .un]) ∧ ∀ x ∈ rest, 0 ≤ x ∧ x ≤ 999999)
      ⟨⟨_, _, _, rfl⟩, hp⟩ fun p rest ss hR => by
        obtain ⟨⟨v6, v7, v8, rfl⟩, hp⟩ := hR
        obtain ⟨p0, p1⟩ := hp p List.mem_cons_self
        refine ⟨[.imm (ra a), .imm (ra b), .imm P, .imm (ra c), .imm (ra d), .imm (ra r), .imm (.int p), v7, v8, .un], [.imm (ra a), .imm (ra b), .imm P, .imm (ra c), .imm (ra d), .imm (ra r), .imm (.int p), .imm (.bool (decide (Mem a p))), .imm (.bool (decide (Mem b p))), .un], by simp, .inl ?_, ⟨_, _, _, rfl⟩, fun x hx => hp x (List.mem_cons_of_mem _ hx)⟩
        have f1 := law_in_eq ha (by decide) p
        have f2 := law_in_eq hb (by decide) p
        have f3 := law_in_eq rc (by decide) p
        have f4 := law_in_eq rd (by decide) p
        have f5 := law_in_eq rr (by decide) p
        have f6 := has_eq ha (by decide) p p0 p1
        have f7 := law_at_eq p
        have j0 : S__law_due_right_2_0 [.imm (ra a), .imm (ra b), .imm P, .imm (ra c), .imm (ra d), .imm (ra r), .imm (.int p), v7, v8, .un] = .nx [.imm (ra a), .imm (ra b), .imm P, .imm (ra c), .imm (ra d), .imm (ra r), .imm (.int p), .imm (.bool (decide (Mem a p))), .imm (.bool (decide (Mem b p))), .un] := by
          unfold S__law_due_right_2_0 sPar
          simp [f1, f2]
        unfold L__law_due_right_2
        rw [seq_nx j0]
        have eq_bool : ∀ a b : Bool, dEq (.bool a) (.bool b) = some (.bool (decide (a = b))) := fun a b => eq_dat a b
        have gc := mc p
        have gd := md p
        have gr := mr p
        by_cases z1 : Mem a p <;> by_cases z2 : Mem b p <;> simp [z1, z2, p0, p1] at gc gd gr <;> simp [z1, z2, f3, f4, f5, f6, f7, gc, gd, gr, ne_bool, eq_bool]
    exact ⟨v6, v7, v8, rfl⟩
  unfold F__law_due_right
  rw [q_ev3]
  show fin 3 (B__law_due_right [.imm (ra a), .imm (ra b), .imm P, .un, .un, .un, .un, .un, .un, .un]) = _
  unfold B__law_due_right
  rw [seq_nx k0, seq_nx k1, seq_nx k2]
  simp
end G

set_option maxHeartbeats 2000000
/-! k03: the law. -/
namespace G
open PySem Dt Dm Dk Rn
open L2 (atI ixN)
open PySem.W (Datum DatumOrd Tup T3 T4)
theorem within_near {a b : List Pr} {n m : Nat} (ha : Rg n a) (hb : Rg m b) (ps : List Int) (h1 : ∀ p ∈ a, p.1 ∈ ps) (h2 : ∀ p ∈ b, p.2 + 1 ≤ 999999 → p.2 + 1 ∈ ps) (h : ∀ x ∈ ps, Mem a x → Mem b x) : ∀ x, Mem a x → Mem b x := by
  intro x hx
  obtain ⟨p, hp, hp1, hp2⟩ := hx
  have c := can_all ha.can (Int.le_refl _) p hp
  -- from the low end on, step by step
  have key : ∀ k : Nat, p.1 + k ≤ p.2 → Mem b (p.1 + k) := by
    intro k
    induction k with
    | zero =>
      intro _
      have := h p.1 (h1 p hp) ⟨p, hp, Int.le_refl _, c.2.1⟩
      simpa using this
    | succ k ih =>
      intro hk
      have hk' : p.1 + (k : Int) ≤ p.2 := by omega
      obtain ⟨q, hq, q1, q2⟩ := ih hk'
      have cq := can_all hb.can (Int.le_refl _) q hq
      by_cases hn : p.1 + ((k + 1 : Nat) : Int) ≤ q.2
      · exact ⟨q, hq, by omega, hn⟩
      · have e : p.1 + ((k + 1 : Nat) : Int) = q.2 + 1 := by omega
        rw [e]
        refine h _ (h2 q hq (by omega)) ⟨p, hp, by omega, by omega⟩
  have := key (x - p.1).toNat (by omega)
  have e : p.1 + ((x - p.1).toNat : Int) = x := by omega
  rwa [e] at this
theorem cross_eq {a b : List Pr} {n m : Nat} (ha : Rg n a) (hb : Rg m b) (hn : n ≤ 9000) (hm : m ≤ 9000) (ps : List Int) (hl : ps.length ≤ 300) (s0 s1 s3 s4 : D) (o : O) (v8 v9 v10 : Sl) :
    eFz (nLc [11] (lSeq (eV 5)) (gN 11) (bAnd (bOf (eCall F__law_in (aCons (eV 6) (aCons (eV 11) aNil)))) (bNot (bOf (eCall F__law_in (aCons (eV 7) (aCons (eV 11) aNil)))))) (eV 11))
      [.imm s0, .imm s1, .own o, .imm s3, .imm s4, .imm (.list (ps.map .int)), .imm (ra a), .imm (ra b), v8, v9, v10, .un, .un, .un] = .ok (.list ((ps.filter fun x => decide (Mem a x) && !decide (Mem b x)).map .int)) [.imm s0, .imm s1, .own o, .imm s3, .imm s4, .imm (.list (ps.map .int)), .imm (ra a), .imm (ra b), v8, v9, v10, .un, .un, .un] := by
  rw [q_eFz, nLc_filt (fun x : Int => (.int x : D)) (fun x => decide (Mem a x) && !decide (Mem b x)) (fun x => .int x) ps ?hs ?h ?hl]
  case hs => simp
  case h =>
    intro x hx
    have f1 := law_in_eq ha hn x
    have f2 := law_in_eq hb hm x
    by_cases z1 : Mem a x <;> by_cases z2 : Mem b x <;> simp [f1, f2, z1, z2]
  case hl => rw [q_size]; omega
  simp
structure PairOk (ps : List Int) (p : List Pr × List Pr) : Prop where
  l : Rg 6 p.1
  r : Rg 6 p.2
  w : (∀ x ∈ ps, Mem p.1 x → Mem p.2 x) → ∀ x, Mem p.1 x → Mem p.2 x
theorem pair_turn {ps : List Int} (hp : ∀ x ∈ ps, 0 ≤ x ∧ x ≤ 999999) (hl : ps.length ≤ 300) {p : List Pr × List Pr} (hP : PairOk ps p) (s0 s1 s3 s4 : D) (o : O) (v8 v9 v10 : Sl) :
    ∃ w8 w9, L_law_0_4 [.imm s0, .imm s1, .own o, .imm s3, .imm s4, .imm (.list (ps.map .int)), .imm (ra p.1), .imm (ra p.2), v8, v9, v10, .un, .un, .un] = .nx [.imm s0, .imm s1, .own o, .imm s3, .imm s4, .imm (.list (ps.map .int)), .imm (ra p.1), .imm (ra p.2), w8, w9, v10, .un, .un, .un] := by
  have d := due_ok hP.l hP.r ps hp hl
  obtain ⟨t, e1, ht⟩ := within_ok hP.l hP.r (by decide) (by decide)
  have k0 : S_law_0_4_0 [.imm s0, .imm s1, .own o, .imm s3, .imm s4, .imm (.list (ps.map .int)), .imm (ra p.1), .imm (ra p.2), v8, v9, v10, .un, .un, .un] = .nx [.imm s0, .imm s1, .own o, .imm s3, .imm s4, .imm (.list (ps.map .int)), .imm (ra p.1), .imm (ra p.2), v8, v9, v10, .un, .un, .un] := by simp [d]
  have k1 : S_law_0_4_1 [.imm s0, .imm s1, .own o, .imm s3, .imm s4, .imm (.list (ps.map .int)), .imm (ra p.1), .imm (ra p.2), v8, v9, v10, .un, .un, .un] = .nx [.imm s0, .imm s1, .own o, .imm s3, .imm s4, .imm (.list (ps.map .int)), .imm (ra p.1), .imm (ra p.2), .imm (.bool t), v9, v10, .un, .un, .un] := by simp [e1]
  have k2 : S_law_0_4_2 [.imm s0, .imm s1, .own o, .imm s3, .imm s4, .imm (.list (ps.map .int)), .imm (ra p.1), .imm (ra p.2), .imm (.bool t), v9, v10, .un, .un, .un] = .nx [.imm s0, .imm s1, .own o, .imm s3, .imm s4, .imm (.list (ps.map .int)), .imm (ra p.1), .imm (ra p.2), .imm (.bool t), .imm (.list ((ps.filter fun x => decide (Mem p.1 x) && !decide (Mem p.2 x)).map .int)), v10, .un, .un, .un] := by
    simp only [S_law_0_4_2, q_sAsg, cross_eq hP.l hP.r (by decide) (by decide) ps hl]
    simp
  have he := eq_dat (ps.filter fun x => decide (Mem p.1 x) && !decide (Mem p.2 x)) []
  have e2 : (Datum.toD (ps.filter fun x => decide (Mem p.1 x) && !decide (Mem p.2 x)) : D) = .list ((ps.filter fun x => decide (Mem p.1 x) && !decide (Mem p.2 x)).map .int) := rfl
  have e3 : (Datum.toD ([] : List Int) : D) = .list [] := rfl
  rw [e2, e3] at he
  have ht2 : t = decide ((ps.filter fun x => decide (Mem p.1 x) && !decide (Mem p.2 x)) = []) := by
    rw [Bool.eq_iff_iff, decide_eq_true_eq, List.filter_eq_nil_iff, ht]
    constructor
    · intro h x _
      by_cases z : Mem p.1 x <;> simp [z, h x]
    · intro h
      refine hP.w fun x hx hm => ?_
      have := h x hx
      simp [hm] at this
      exact this
  have k3 : S_law_0_4_3 [.imm s0, .imm s1, .own o, .imm s3, .imm s4, .imm (.list (ps.map .int)), .imm (ra p.1), .imm (ra p.2), .imm (.bool t), .imm (.list ((ps.filter fun x => decide (Mem p.1 x) && !decide (Mem p.2 x)).map .int)), v10, .un, .un, .un] = .nx [.imm s0, .imm s1, .own o, .imm s3, .imm s4, .imm (.list (ps.map .int)), .imm (ra p.1), .imm (ra p.2), .imm (.bool t), .imm (.list ((ps.filter fun x => decide (Mem p.1 x) && !decide (Mem p.2 x)).map .int)), v10, .un, .un, .un] := by
    rw [← ht2] at he
    generalize (ps.filter fun x => decide (Mem p.1 x) && !decide (Mem p.2 x)) = fs at *
    have hb : dNe (.bool t) (.bool t) = some (.bool false) := (ne_bool t t).trans (by simp)
    simp [he, hb]
  exact ⟨_, _, by unfold L_law_0_4; rw [seq_nx k0, seq_nx k1, seq_nx k2]; exact k3⟩
theorem pairs_run {ps : List Int} (hp : ∀ x ∈ ps, 0 ≤ x ∧ x ≤ 999999) (hl : ps.length ≤ 300) (s0 s1 s3 s4 : D) (o : O) (xs : List (List Pr × List Pr)) (hx : ∀ p ∈ xs, PairOk ps p) (v6 v7 v8 v9 v10 : Sl) :
    ∃ w6 w7 w8 w9, loopF (gTup 2 (gCons (gN 6) (gCons (gN 7) gNil))) L_law_0_4 (xs.map fun p => .tuple [ra p.1, ra p.2]) [.imm s0, .imm s1, .own o, .imm s3, .imm s4, .imm (.list (ps.map .int)), v6, v7, v8, v9, v10, .un, .un, .un] = .nx [.imm s0, .imm s1, .own o, .imm s3, .imm s4, .imm (.list (ps.map .int)), w6, w7, w8, w9, v10, .un, .un, .un] := by
  obtain ⟨s2, e, ⟨v6, v7, v8, v9, rfl⟩, _⟩ := loop_inv (g := gTup 2 (gCons (gN 6) (gCons (gN 7) gNil))) (b := L_law_0_4) (fun p : List Pr × List Pr => (.tuple [ra p.1, ra p.2] : D)) (fun rest ss => (∃ v6 v7 v8 v9, ss = [.imm s0, .imm s1, .own o, .imm s3, .imm s4, .imm (.list (ps.map .int)), v6, v7, v8, v9, v10, .un, .un, .un]) ∧ ∀ p ∈ rest, PairOk ps p) (fun p rest ss hR => by
    obtain ⟨⟨v6, v7, v8, v9, rfl⟩, hx⟩ := hR
    obtain ⟨v8', v9', e⟩ := pair_turn hp hl (hx p List.mem_cons_self) s0 s1 s3 s4 o v8 v9 v10
    exact ⟨_, _, rfl, .inl e, ⟨_, _, _, _, rfl⟩, fun q hq => hx q (List.mem_cons_of_mem _ hq)⟩) xs _ ⟨⟨v6, v7, v8, v9, rfl⟩, hx⟩
  exact ⟨v6, v7, v8, v9, e⟩
def RL (S : D) (ss : SS) : Prop := ∃ v1 v2 v3 v4 v5 v6 v7 v8 v9 v10, ss = [.imm S, v1, v2, v3, v4, v5, v6, v7, v8, v9, v10, .un, .un, .un]
theorem draw_ok {n : Nat} {o : O} (h : Deck n o) (hn : n ≤ 500) : ∃ (a b : List Pr) (u1 u2 : O), rv1 F__law_span o = some (ra a, u1) ∧ rv1 F__law_many u1 = some (ra b, u2) ∧ Rg 5 a ∧ Rg 5 b ∧ Deck (n + 50) u2 := by
  obtain ⟨a, u1, e1, r1, d1⟩ := law_span_ok h (by omega)
  obtain ⟨b, u2, e2, r2, d2⟩ := law_many_ok d1 (by omega)
  exact ⟨a, b, u1, u2, e1, e2, rg_mono r1 (by decide), rg_mono r2 (by decide), d2.mono (by omega)⟩
theorem cell_ok (S : D) (cell : Int) (ss : SS) (hR : RL S ss) : ∃ s1 s2, gN 1 (.int cell) ss = some s1 ∧ (L_law_0 s1 = .nx s2 ∨ L_law_0 s1 = .ct s2) ∧ RL S s2 := by
  obtain ⟨v1, v2, v3, v4, v5, v6, v7, v8, v9, v10, rfl⟩ := hR
  obtain ⟨o, e0, d0⟩ := deck_spec cell 0
  rw [show ((0 : Nat) : Int) = 0 from rfl] at e0
  obtain ⟨a1, b1, u1, u2, f1, f2, ra1, rb1, d1⟩ := draw_ok d0 (by decide)
  obtain ⟨k, u3, f3, kk0, kk1, d2⟩ := pick_spec (m := 2) d1 (by decide) (by decide) (by decide)
  obtain ⟨one, h1, r1⟩ : ∃ one, atI [ra a1, ra b1] k = some (ra one) ∧ Rg 5 one := by
    have : k = 0 ∨ k = 1 := by omega
    rcases this with rfl | rfl
    · exact ⟨a1, rfl, ra1⟩
    · exact ⟨b1, rfl, rb1⟩
  obtain ⟨a2, b2, u4, u5, g1, g2, ra2, rb2, d3⟩ := draw_ok d2 (by decide)
  obtain ⟨j, u6, g3, j0, j1, d4⟩ := pick_spec (m := 3) d3 (by decide) (by decide) (by decide)
  obtain ⟨other, h2, r2⟩ : ∃ other, atI [ra a2, ra b2, ra one] j = some (ra other) ∧ Rg 5 other := by
    have : j = 0 ∨ j = 1 ∨ j = 2 := by omega
    rcases this with rfl | rfl | rfl
    · exact ⟨a2, rfl, ra2⟩
    · exact ⟨b2, rfl, rb2⟩
    · exact ⟨one, rfl, r1⟩
  obtain ⟨ps, hps, hN⟩ := law_near_eq r1 r2
  obtain ⟨nr, en, rn, mn⟩ := rest_ok r1 (by decide)
  have q1 := rg_mono r1 (show 5 ≤ 6 by decide)
  have q2 := rg_mono r2 (show 5 ≤ 6 by decide)
  have rN : Rg 6 [] := ⟨trivial, by simp⟩
  have m1 : ∀ p ∈ one, p.1 ∈ ps := fun p hp => (hN.has p (.inl hp)).1
  have m2 : ∀ p ∈ other, p.1 ∈ ps := fun p hp => (hN.has p (.inr hp)).1
  have t1 : ∀ p ∈ one, p.2 + 1 ≤ 999999 → p.2 + 1 ∈ ps := fun p hp => (hN.has p (.inl hp)).2.2
  have t2 : ∀ p ∈ other, p.2 + 1 ≤ 999999 → p.2 + 1 ∈ ps := fun p hp => (hN.has p (.inr hp)).2.2
  have hx : ∀ p ∈ [(one, other), (other, one), (one, one), (one, []), (one, nr)], PairOk ps p := by
    intro p hp
    simp only [List.mem_cons, List.not_mem_nil, or_false] at hp
    rcases hp with rfl | rfl | rfl | rfl | rfl
    · exact ⟨q1, q2, within_near q1 q2 ps m1 t2⟩
    · exact ⟨q2, q1, within_near q2 q1 ps m2 t1⟩
    · exact ⟨q1, q1, fun _ x h => h⟩
    · exact ⟨q1, rN, within_near q1 rN ps m1 (fun p hp => nomatch hp)⟩
    · refine ⟨q1, rn, fun h x hm => ?_⟩
      obtain ⟨p, hp, hp1, hp2⟩ := hm
      have c := can_all r1.can (Int.le_refl _) p hp
      have hm1 : Mem one p.1 := ⟨p, hp, Int.le_refl _, c.2.1⟩
      exact (((mn _).mp (h _ (m1 p hp) hm1)).2 hm1).elim
  have k0 : S_law_0_0 [.imm S, .imm (.int cell), v2, v3, v4, v5, v6, v7, v8, v9, v10, .un, .un, .un] = .nx [.imm S, .imm (.int cell), .own o, v3, v4, v5, v6, v7, v8, v9, v10, .un, .un, .un] := by simp [deck_is, e0]
  have k1 : S_law_0_1 [.imm S, .imm (.int cell), .own o, v3, v4, v5, v6, v7, v8, v9, v10, .un, .un, .un] = .nx [.imm S, .imm (.int cell), .own u3, .imm (ra one), v4, v5, v6, v7, v8, v9, v10, .un, .un, .un] := by simp [q_r2, pick_is, f1, f2, f3, h1]
  have k2 : S_law_0_2 [.imm S, .imm (.int cell), .own u3, .imm (ra one), v4, v5, v6, v7, v8, v9, v10, .un, .un, .un] = .nx [.imm S, .imm (.int cell), .own u6, .imm (ra one), .imm (ra other), v5, v6, v7, v8, v9, v10, .un, .un, .un] := by simp [q_r2, pick_is, g1, g2, g3, h2]
  have k3 : S_law_0_3 [.imm S, .imm (.int cell), .own u6, .imm (ra one), .imm (ra other), v5, v6, v7, v8, v9, v10, .un, .un, .un] = .nx [.imm S, .imm (.int cell), .own u6, .imm (ra one), .imm (ra other), .imm (.list (ps.map .int)), v6, v7, v8, v9, v10, .un, .un, .un] := by simp [hps]
  obtain ⟨w6, w7, w8, w9, k4⟩ := pairs_run hN.lo (Nat.le_trans hN.len (by decide)) S (.int cell) (ra one) (ra other) u6 _ hx v6 v7 v8 v9 v10
  have k4' : S_law_0_4 [.imm S, .imm (.int cell), .own u6, .imm (ra one), .imm (ra other), .imm (.list (ps.map .int)), v6, v7, v8, v9, v10, .un, .un, .un] = .nx [.imm S, .imm (.int cell), .own u6, .imm (ra one), .imm (ra other), .imm (.list (ps.map .int)), w6, w7, w8, w9, v10, .un, .un, .un] := by
    rw [← k4]
    have e0 : (.tuple [] : D) = ra [] := rfl
    have hi : lSeq (eFz (nLst (lCons (eTup (lCons (eV 3) (lCons (eV 4) lNil))) (lCons (eTup (lCons (eV 4) (lCons (eV 3) lNil))) (lCons (eTup (lCons (eV 3) (lCons (eV 3) lNil))) (lCons (eTup (lCons (eV 3) (lCons (eTup lNil) lNil))) (lCons (eTup (lCons (eV 3) (lCons (eCall F_rest (aCons (eV 3) aNil)) lNil))) lNil)))))))
      [.imm S, .imm (.int cell), .own u6, .imm (ra one), .imm (ra other), .imm (.list (ps.map .int)), v6, v7, v8, v9, v10, .un, .un, .un] = .ok ([(one, other), (other, one), (one, one), (one, []), (one, nr)].map fun p => .tuple [ra p.1, ra p.2]) [.imm S, .imm (.int cell), .own u6, .imm (ra one), .imm (ra other), .imm (.list (ps.map .int)), v6, v7, v8, v9, v10, .un, .un, .un] := by
      simp [en, e0]
    simp only [S_law_0_4, q_sFor, hi]
  have c1 := count_ok r1 (by decide)
  have c2 := count_ok rn (by decide)
  have htot := tot_cnt (hi := 999999) (n := 1000000) (by decide) (Int.le_refl 0) r1.can
  have hsum : cnt (Mem one) 1000000 + cnt (Mem nr) 1000000 = 1000000 := by
    have e : cnt (fun x => Mem one x ∨ Mem nr x) 1000000 = cnt (Mem one) 1000000 + cnt (Mem nr) 1000000 := cnt_or (fun x z1 z2 => ((mn x).mp z2).2 z1) _
    rw [← e]
    rw [cnt_congr (Q := fun x => (0 : Int) ≤ x ∧ x ≤ 999999) fun x => ?_, cnt_iv (Int.le_refl 0) (by decide)]
    · simp
    · constructor
      · rintro (z | z)
        · exact r1.can.low z
        · exact ((mn x).mp z).1
      · intro z
        by_cases h : Mem one x
        · exact .inl h
        · exact .inr ((mn x).mpr ⟨z, h⟩)
  have k5 : S_law_0_5 [.imm S, .imm (.int cell), .own u6, .imm (ra one), .imm (ra other), .imm (.list (ps.map .int)), w6, w7, w8, w9, v10, .un, .un, .un] = .nx [.imm S, .imm (.int cell), .own u6, .imm (ra one), .imm (ra other), .imm (.list (ps.map .int)), w6, w7, w8, w9, .imm (.int (tot one)), .un, .un, .un] := by
    simp [-q_nLc]
    rw [nLc_pure (fun p : Pr => (.tuple [Datum.toD (at_ p.1), Datum.toD (at_ p.2)] : D)) (fun p => .int (p.2 - p.1 + 1)) one ?hs ?h ?hl]
    case hs => simp [ra_map]
    case h =>
      intro p hp
      have := can_all r1.can (Int.le_refl _) p hp
      have e1 := law_place_at p.1 (by omega) (by omega)
      have e2 := law_place_at p.2 (by omega) (by omega)
      simp [e1, e2]
    case hl => have := r1.len; rw [q_size]; omega
    simp only [q_bind_ok, q_toD_l, q_sum]
    rw [mapM_asI (fun p : Pr => (.int (p.2 - p.1 + 1) : D)) (fun p => p.2 - p.1 + 1) (fun p => rfl)]
    simp [tot]
  have hw : ∀ i : Int, ev1 F__law_whole (.int i) = some (.bool true) := fun i => by
    unfold F__law_whole
    rw [q_ev1]
    unfold B__law_whole
    simp
  have k6 : S_law_0_6 [.imm S, .imm (.int cell), .own u6, .imm (ra one), .imm (ra other), .imm (.list (ps.map .int)), w6, w7, w8, w9, .imm (.int (tot one)), .un, .un, .un] = .nx [.imm S, .imm (.int cell), .own u6, .imm (ra one), .imm (ra other), .imm (.list (ps.map .int)), w6, w7, w8, w9, .imm (.int (tot one)), .un, .un, .un] := by
    generalize cnt (Mem one) 1000000 = X at *
    generalize cnt (Mem nr) 1000000 = Y at *
    simp [c1, c2, hw, htot, en, hsum]
  have hh := has_eq r1 (by decide) 0 (by decide) (by decide)
  have k7 : S_law_0_7 [.imm S, .imm (.int cell), .own u6, .imm (ra one), .imm (ra other), .imm (.list (ps.map .int)), w6, w7, w8, w9, .imm (.int (tot one)), .un, .un, .un] = .nx [.imm S, .imm (.int cell), .own u6, .imm (ra one), .imm (ra other), .imm (.list (ps.map .int)), w6, w7, w8, w9, .imm (.int (tot one)), .un, .un, .un] := by
    rw [at0] at hh
    simp [hh]
  have kB : L_law_0 [.imm S, .imm (.int cell), v2, v3, v4, v5, v6, v7, v8, v9, v10, .un, .un, .un] = .nx [.imm S, .imm (.int cell), .own u6, .imm (ra one), .imm (ra other), .imm (.list (ps.map .int)), w6, w7, w8, w9, .imm (.int (tot one)), .un, .un, .un] := by
    unfold L_law_0
    rw [seq_nx k0, seq_nx k1, seq_nx k2, seq_nx k3, seq_nx k4', seq_nx k5, seq_nx k6, k7]
  exact ⟨_, _, rfl, .inl kB, ⟨_, _, _, _, _, _, _, _, _, _, rfl⟩⟩
theorem law_true (ns : List Int) (h : ns.length ≤ 63) : ∃ args, F_law [.imm (.list (ns.map .int))] = some (.imm (.bool true), args) :=
  law_end (N := 14) (k := 5) (B := B_law) (bd := L_law_0) rfl (RL (.list (ns.map .int))) ⟨_, _, _, _, _, _, _, _, _, _, rfl⟩ (fun x ss hR => cell_ok _ x ss hR) h
end G

open PySem PySem.W PyProof.Rows
set_option maxHeartbeats 0 in
theorem PySem.Challenge.cw_wareyard_k03_whole_ranges_reckoned_holds : PySem.Challenge.rw_wareyard_k03_whole_ranges_reckoned.Holds := by
  w_on; o_law; k_head; (case hw => w_witness2)
  k_fill
  refine L2.walk_of (l := PySem.Challenge.rw_wareyard_k03_whole_ranges_reckoned) (n := 63) (k := 5) (x := "script") (CX := fun _ => L2.CX0) (sp := fun w => Dt.spLaw _) rfl (by decide) rfl ⟨rfl, by decide, by decide⟩ (fun w h Y => PySem.W.kIn_of Y) ?F (fun _ _ a ns hl o hS => Dt.law_in hl o hS) (fun _ _ _ _ _ h => h)
  case F =>
    intro w mg fa h KX Gn hmg
    have T : G.Txt (L2.KOf KX) mg := by
      unfold L2.KOf
      refine' ⟨(Dt.no_mk KX Gn ?n_any),
        (Dt.no_mk KX Gn ?n_bool),
        (Dt.no_mk KX Gn ?n_int),
        (Dt.no_mk KX Gn ?n_isinstance),
        (Dt.no_mk KX Gn ?n_len),
        (Dt.no_mk KX Gn ?n_max),
        (Dt.no_mk KX Gn ?n_min),
        (Dt.no_mk KX Gn ?n_range),
        (Dt.no_mk KX Gn ?n_set),
        (Dt.no_mk KX Gn ?n_sorted),
        (Dt.no_mk KX Gn ?n_sum),
        (Dt.no_mk KX Gn ?n_tuple),
        (Dt.no_mk KX Gn ?n_zip),
        (Dt.gl_mk KX Gn ?z_LAST (Dt.kt ?g_LAST_0 (.cons .int (.cons .int (.cons .int .nil))))),
        (Dt.at_mk KX Gn ?a_place_of ?l_place_of ?c_place_of ?k_place_of fun _ _ _ _ _ _ us hl => match us, hl with | [_], _ => rfl),
        (Dt.at_mk KX Gn ?a_edition_at ?l_edition_at ?c_edition_at ?k_edition_at fun _ _ _ _ _ _ us hl => match us, hl with | [_], _ => rfl),
        (Dt.at_mk KX Gn ?a_spans_of ?l_spans_of ?c_spans_of ?k_spans_of fun _ _ _ _ _ _ us hl => match us, hl with | [_], _ => rfl),
        (Dt.at_mk KX Gn ?a_joined ?l_joined ?c_joined ?k_joined fun _ _ _ _ _ _ us hl => match us, hl with | [_], _ => rfl),
        (Dt.at_mk KX Gn ?a_both ?l_both ?c_both ?k_both fun _ _ _ _ _ _ us hl => match us, hl with | [_, _], _ => rfl),
        (Dt.at_mk KX Gn ?a_either ?l_either ?c_either ?k_either fun _ _ _ _ _ _ us hl => match us, hl with | [_, _], _ => rfl),
        (Dt.at_mk KX Gn ?a_rest ?l_rest ?c_rest ?k_rest fun _ _ _ _ _ _ us hl => match us, hl with | [_], _ => rfl),
        (Dt.at_mk KX Gn ?a_has ?l_has ?c_has ?k_has fun _ _ _ _ _ _ us hl => match us, hl with | [_, _], _ => rfl),
        (Dt.at_mk KX Gn ?a_is_within ?l_is_within ?c_is_within ?k_is_within fun _ _ _ _ _ _ us hl => match us, hl with | [_, _], _ => rfl),
        (Dt.at_mk KX Gn ?a_count ?l_count ?c_count ?k_count fun _ _ _ _ _ _ us hl => match us, hl with | [_], _ => rfl),
        (Dt.at_mk KX Gn ?a__law_deck ?l__law_deck ?c__law_deck ?k__law_deck fun _ _ _ _ _ _ us hl => match us, hl with | [_, _], _ => rfl),
        (Dt.at_mk KX Gn ?a__law_pick ?l__law_pick ?c__law_pick ?k__law_pick fun _ _ _ _ _ _ us hl => match us, hl with | [_, _], _ => rfl),
        (Dt.at_mk KX Gn ?a__law_whole ?l__law_whole ?c__law_whole ?k__law_whole fun _ _ _ _ _ _ us hl => match us, hl with | [_], _ => rfl),
        (Dt.at_mk KX Gn ?a__law_edition ?l__law_edition ?c__law_edition ?k__law_edition fun _ _ _ _ _ _ us hl => match us, hl with | [_], _ => rfl),
        (Dt.at_mk KX Gn ?a__law_place ?l__law_place ?c__law_place ?k__law_place fun _ _ _ _ _ _ us hl => match us, hl with | [_], _ => rfl),
        (Dt.at_mk KX Gn ?a__law_at ?l__law_at ?c__law_at ?k__law_at fun _ _ _ _ _ _ us hl => match us, hl with | [_], _ => rfl),
        (Dt.at_mk KX Gn ?a__law_joined ?l__law_joined ?c__law_joined ?k__law_joined fun _ _ _ _ _ _ us hl => match us, hl with | [_], _ => rfl),
        (Dt.at_mk KX Gn ?a__law_span ?l__law_span ?c__law_span ?k__law_span fun _ _ _ _ _ _ us hl => match us, hl with | [_], _ => rfl),
        (Dt.at_mk KX Gn ?a__law_is_edition ?l__law_is_edition ?c__law_is_edition ?k__law_is_edition fun _ _ _ _ _ _ us hl => match us, hl with | [_], _ => rfl),
        (Dt.at_mk KX Gn ?a__law_is_range ?l__law_is_range ?c__law_is_range ?k__law_is_range fun _ _ _ _ _ _ us hl => match us, hl with | [_], _ => rfl),
        (Dt.at_mk KX Gn ?a__law_in ?l__law_in ?c__law_in ?k__law_in fun _ _ _ _ _ _ us hl => match us, hl with | [_, _], _ => rfl),
        (Dt.at_mk KX Gn ?a__law_near ?l__law_near ?c__law_near ?k__law_near fun _ _ _ _ _ _ us hl => match us, hl with | [_], _ => rfl),
        (Dt.at_mk KX Gn ?a__law_many ?l__law_many ?c__law_many ?k__law_many fun _ _ _ _ _ _ us hl => match us, hl with | [_], _ => rfl),
        (Dt.at_mk KX Gn ?a__law_due_right ?l__law_due_right ?c__law_due_right ?k__law_due_right fun _ _ _ _ _ _ us hl => match us, hl with | [_, _, _], _ => rfl),
        (Dt.at_mk KX Gn ?a_law ?l_law ?c_law ?k_law fun _ _ _ _ _ _ us hl => match us, hl with | [_], _ => rfl)⟩
      (case n_any => k_is)
      (case n_bool => k_is)
      (case n_int => k_is)
      (case n_isinstance => k_is)
      (case n_len => k_is)
      (case n_max => k_is)
      (case n_min => k_is)
      (case n_range => k_is)
      (case n_set => k_is)
      (case n_sorted => k_is)
      (case n_sum => k_is)
      (case n_tuple => k_is)
      (case n_zip => k_is)
      (case z_LAST => k_is)
      (case g_LAST_0 => k_is)
      (case a_place_of => k_is)
      (case l_place_of => k_is)
      (case c_place_of => k_is)
      (case k_place_of => k_is)
      (case a_edition_at => k_is)
      (case l_edition_at => k_is)
      (case c_edition_at => k_is)
      (case k_edition_at => k_is)
      (case a_spans_of => k_is)
      (case l_spans_of => k_is)
      (case c_spans_of => k_is)
      (case k_spans_of => k_is)
      (case a_joined => k_is)
      (case l_joined => k_is)
      (case c_joined => k_is)
      (case k_joined => k_is)
      (case a_both => k_is)
      (case l_both => k_is)
      (case c_both => k_is)
      (case k_both => k_is)
      (case a_either => k_is)
      (case l_either => k_is)
      (case c_either => k_is)
      (case k_either => k_is)
      (case a_rest => k_is)
      (case l_rest => k_is)
      (case c_rest => k_is)
      (case k_rest => k_is)
      (case a_has => k_is)
      (case l_has => k_is)
      (case c_has => k_is)
      (case k_has => k_is)
      (case a_is_within => k_is)
      (case l_is_within => k_is)
      (case c_is_within => k_is)
      (case k_is_within => k_is)
      (case a_count => k_is)
      (case l_count => k_is)
      (case c_count => k_is)
      (case k_count => k_is)
      (case a__law_deck => k_is)
      (case l__law_deck => k_is)
      (case c__law_deck => k_is)
      (case k__law_deck => k_is)
      (case a__law_pick => k_is)
      (case l__law_pick => k_is)
      (case c__law_pick => k_is)
      (case k__law_pick => k_is)
      (case a__law_whole => k_is)
      (case l__law_whole => k_is)
      (case c__law_whole => k_is)
      (case k__law_whole => k_is)
      (case a__law_edition => k_is)
      (case l__law_edition => k_is)
      (case c__law_edition => k_is)
      (case k__law_edition => k_is)
      (case a__law_place => k_is)
      (case l__law_place => k_is)
      (case c__law_place => k_is)
      (case k__law_place => k_is)
      (case a__law_at => k_is)
      (case l__law_at => k_is)
      (case c__law_at => k_is)
      (case k__law_at => k_is)
      (case a__law_joined => k_is)
      (case l__law_joined => k_is)
      (case c__law_joined => k_is)
      (case k__law_joined => k_is)
      (case a__law_span => k_is)
      (case l__law_span => k_is)
      (case c__law_span => k_is)
      (case k__law_span => k_is)
      (case a__law_is_edition => k_is)
      (case l__law_is_edition => k_is)
      (case c__law_is_edition => k_is)
      (case k__law_is_edition => k_is)
      (case a__law_is_range => k_is)
      (case l__law_is_range => k_is)
      (case c__law_is_range => k_is)
      (case k__law_is_range => k_is)
      (case a__law_in => k_is)
      (case l__law_in => k_is)
      (case c__law_in => k_is)
      (case k__law_in => k_is)
      (case a__law_near => k_is)
      (case l__law_near => k_is)
      (case c__law_near => k_is)
      (case k__law_near => k_is)
      (case a__law_many => k_is)
      (case l__law_many => k_is)
      (case c__law_many => k_is)
      (case k__law_many => k_is)
      (case a__law_due_right => k_is)
      (case l__law_due_right => k_is)
      (case c__law_due_right => k_is)
      (case k__law_due_right => k_is)
      (case a_law => k_is)
      (case l_law => k_is)
      (case c_law => k_is)
      (case k_law => k_is)
    obtain ⟨f, fd, Fl, m, bi⟩ := T.a_law
    have e := hmg.symm.trans m
    cases e
    refine ⟨fd, fun s u => ?_, fun base _ _ => (G.fn_law T Fl).imp (Dt.law_imp G.law_true)⟩
    exact Dt.bind1 bi s u
