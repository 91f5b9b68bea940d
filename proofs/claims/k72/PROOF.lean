import PyProof.Rows.All
import Wide.All
import OpenK.AllK
import Wide.FinOn
import HandS.ForMost
import KE.KDictKeyed
import KE.KDictDisplayH
import KE.KExcSuper
import HandS.Exc
import HandS.ExcInit
import HandS.ExcField
import HandS.TryOnly
import HandS.Defaults
import HandS.HeadHook1
import HandS.HeadHook2
import HandS.HeadHook3
import HandS.HeadHook4
import KE.KExcIs
import HandS.ExcIs
import HandS.IsInst
import KE.KLam
import HandS.Codes
import PyProof.CodeObj
import HandS.Lambda
import KE.GoesEnum
import KE.GoesNew
import HandS.More
import HandS.Star
import HandS.TupMul
import HandS.Words
import HandS.WordsList
import HandS.WordsExc
import HandS.AnyAll
import HandS.Wide
import HandS.Flow
import HandS.TupAny
import PySem.Challenge.RW_fourstones_k72_leading_back_refused
import Lean
import HandS.Head0
import HandS.Head1
import HandS.Head2
import HandS.HeadEnd
import HandS.HeadWalk
import HandS.Style
import HandS.RaiseMore
set_option Elab.async false
set_option linter.all false
set_option maxRecDepth 100000
set_option maxHeartbeats 4000000
/-! FsKey: dicts whose keys are tuples of any depth (None, ints, texts within), over the hand layer's abstract heap. -/
namespace Fs
open PySem PySem.Spec PyProof.Rows L2

/-- all that stood stands -/
def Ex (H H' : Hp) : Prop := ∀ a o, H a = some o → H' a = some o
theorem Ex.refl (H : Hp) : Ex H H := fun _ _ h => h
theorem Ex.trans {H H1 H2 : Hp} (a : Ex H H1) (b : Ex H1 H2) : Ex H H2 := fun x o h => b x o (a x o h)
theorem Ex.new {H : Hp} {p : Addr} {o : HO} (h : H p = none) : Ex H (upd H p o) := fun a u e =>
  (upd_ne (ne_of_none e h)).trans e
/-- what H does not know may change -/
theorem Ex.upd {H H' : Hp} {p : Addr} {o : HO} (e : Ex H H') (h : H p = none) : Ex H (upd H' p o) := fun a u ha =>
  (upd_ne (ne_of_none ha h)).trans (e a u ha)
theorem Ex.back {H H' : Hp} {p : Addr} (e : Ex H H') (h : H' p = none) : H p = none := by
  cases q : H p with
  | none => rfl
  | some o => rw [e p o q] at h; cases h
theorem Ex.rd {H H' : Hp} {a : Addr} {u : HO} (e : Ex H H') (h : Rd H a u) : Rd H' a u :=
  h.elim (fun z => Or.inl (e a _ z)) fun ⟨o, z⟩ => Or.inr ⟨o, e a _ z⟩
theorem Ex.sl {K : PySem.W.Frag} {H H' : Hp} {a : Addr} {xs : List V} (e : Ex H H') (h : SqL K H a xs) : SqL K H' a xs := h.imp e.rd id
theorem Ex.st {K : PySem.W.Frag} {H H' : Hp} {a : Addr} {xs : List V} (e : Ex H H') (h : SqT K H a xs) : SqT K H' a xs := h.imp e.rd id

/-! ### keys -/
mutual
/-- the value v is the key k -/
inductive KIs (K : PySem.W.Frag) (H : Hp) : NestedKey → V → Prop where
  | non : KIs K H .none .non
  | int (i : Int) : KIs K H (.num i) (.int i)
  | str (x : Str) : KIs K H (.text x) (.str x)
  | tup {ks : List NestedKey} {a : Addr} {xs : List V} : SqT K H a xs → KAll K H ks xs → KIs K H (.tup ks) (.ref a)
inductive KAll (K : PySem.W.Frag) (H : Hp) : List NestedKey → List V → Prop where
  | nil : KAll K H [] []
  | cons {k : NestedKey} {ks : List NestedKey} {x : V} {xs : List V} : KIs K H k x → KAll K H ks xs → KAll K H (k :: ks) (x :: xs)
end
mutual
theorem KIs.ex {K : PySem.W.Frag} {H H' : Hp} (e : Ex H H') : ∀ (k : NestedKey) (v : V), KIs K H k v → KIs K H' k v
  | .none, _, h => by cases h; exact .non
  | .num _, _, h => by
    cases h with
    | int _ => exact .int _
  | .text _, _, h => by cases h; exact .str _
  | .tup ks, _, h => by
    cases h with
    | tup h1 h2 => exact .tup (e.st h1) (KAll.ex e ks _ h2)
theorem KAll.ex {K : PySem.W.Frag} {H H' : Hp} (e : Ex H H') : ∀ (ks : List NestedKey) (vs : List V), KAll K H ks vs → KAll K H' ks vs
  | [], _, h => by cases h; exact .nil
  | k :: ks, _, h => by
    cases h with
    | cons h1 h2 => exact .cons (KIs.ex e k _ h1) (KAll.ex e ks _ h2)
end
/-- only tuples are leant on -/
def ExT (H H' : Hp) : Prop := ∀ a xs, Rd H a (.tup xs) → Rd H' a (.tup xs)
theorem Ex.t {H H' : Hp} (e : Ex H H') : ExT H H' := fun _ _ h => e.rd h
mutual
theorem KIs.ext {K : PySem.W.Frag} {H H' : Hp} (e : ExT H H') : ∀ (k : NestedKey) (v : V), KIs K H k v → KIs K H' k v
  | .none, _, h => by cases h; exact .non
  | .num _, _, h => by
    cases h with
    | int _ => exact .int _
  | .text _, _, h => by cases h; exact .str _
  | .tup ks, _, h => by
    cases h with
    | tup h1 h2 => exact .tup (h1.imp (e _ _) id) (KAll.ext e ks _ h2)
theorem KAll.ext {K : PySem.W.Frag} {H H' : Hp} (e : ExT H H') : ∀ (ks : List NestedKey) (vs : List V), KAll K H ks vs → KAll K H' ks vs
  | [], _, h => by cases h; exact .nil
  | k :: ks, _, h => by
    cases h with
    | cons h1 h2 => exact .cons (KIs.ext e k _ h1) (KAll.ext e ks _ h2)
end
section
variable {X : Cx} {pins : List (Addr × Obj)} {σ : L2.St} {H : Hp} {s : Shared}
mutual
theorem kis_heap (I : Inv X pins σ H s) : ∀ (k : NestedKey) (v : V) (u : Value), KIs X.K H k v → RelV v u → NestedIs s.heap k u
  | .none, _, u, h, r => by cases h; cases (show u = Value.none from r); exact .none
  | .num _, _, u, h, r => by
    cases h with
    | int _ => obtain ⟨t, q⟩ := r; cases q; exact .int _ _
  | .text x, _, u, h, r => by cases h; obtain ⟨t, q⟩ := (show ∃ t, u = Value.str x t from r); cases q; exact .text _ _
  | .tup ks, _, u, h, r => by
    cases h with
    | @tup _ a xs h1 h2 =>
      cases (show u = Value.ref a from r)
      obtain ⟨its, rv, ⟨o, e1, e2, n, e3⟩, _⟩ := I.tuple h1
      exact .tup e1 e2 e3 (by simpa using kall_heap I ks _ its h2 rv)
theorem kall_heap (I : Inv X pins σ H s) : ∀ (ks : List NestedKey) (vs : List V) (us : List Value), KAll X.K H ks vs → Vals vs us → NestedAll s.heap ks us
  | [], _, us, h, r => by cases h; cases r; exact .nil
  | k :: ks, _, us, h, r => by
    cases h with
    | cons h1 h2 =>
      cases r with
      | cons r1 r2 => exact .cons (kis_heap I k _ _ h1 r1) (kall_heap I ks _ _ h2 r2)
end
end

/-! ### the dict -/
/-- at d: a plain dict with just these entries -/
def DRaw (d : Addr) (es : Array DictEntry) (ep : Nat) : HO := .ext fun h => h.DictRaw d es ep
theorem draw_ok {P : Program} {w : World} {H : Hp} {h : Heap} {d : Addr} {es : Array DictEntry} {ep : Nat} (r : h.DictRaw d es ep) : ObjOk P w H h d (DRaw d es ep) := by
  obtain ⟨o, ho, z⟩ := r
  exact ⟨⟨o, ho, z⟩, ⟨o, ho⟩, fun h1 h2 q st => q.at st⟩
theorem draw_at {P : Program} {w : World} {H : Hp} {h : Heap} {d : Addr} {es : Array DictEntry} {ep : Nat} (hok : HOk P w H h) (e : H d = some (DRaw d es ep)) : h.DictRaw d es ep := (hok d _ e).1
theorem draw_mut {d : Addr} {es : Array DictEntry} {ep : Nat} : Mut (some (DRaw d es ep)) := True.intro
theorem draw_tup {d : Addr} {es : Array DictEntry} {ep : Nat} {xs : List V} : DRaw d es ep ≠ .tup xs := fun z => by
  unfold DRaw at z; cases z
theorem draw_frz {d : Addr} {es : Array DictEntry} {ep : Nat} {o : Obj} {u : HO} : DRaw d es ep ≠ .frz o u := fun z => by
  unfold DRaw at z; cases z

abbrev Ent := NestedKey × Addr × Value
/-- entry by entry: the key, the value -/
def EntOk (K : PySem.W.Frag) (H : Hp) (p : NestedKey × V) (q : Ent) : Prop := p.1 = q.1 ∧ KIs K H p.1 (.ref q.2.1) ∧ p.1.depth ≤ 8 ∧ RelV p.2 q.2.2
/-- at d a dict of the keys and values kvs, in this order; es, ep: as it lies -/
structure DNx (P : Program) (w : World) (K : PySem.W.Frag) (H : Hp) (d : Addr) (kvs : List (NestedKey × V)) (es : Array DictEntry) (ep : Nat) : Prop where
  at_ : H d = some (DRaw d es ep)
  sm : (d == sysModules) = false
  ents : ∃ xs : List Ent, es.toList = xs.map (entryOfKey (nestedKind P w)) ∧ Paired (EntOk K H) kvs xs
  nd : (kvs.map (·.1)).Nodup
  len : kvs.length ≤ sizeLine
def DN (P : Program) (w : World) (K : PySem.W.Frag) (H : Hp) (d : Addr) (kvs : List (NestedKey × V)) : Prop := ∃ es ep, DNx P w K H d kvs es ep

theorem Paired.mono {α β : Type} {F G : α → β → Prop} (h : ∀ a b, F a b → G a b) : ∀ {l : List α} {m : List β}, Paired F l m → Paired G l m
  | _, _, .nil => .nil
  | _, _, .cons r t => .cons (h _ _ r) (Paired.mono h t)
theorem DNx.stay {P : Program} {w : World} {K : PySem.W.Frag} {H H' : Hp} {d : Addr} {kvs : List (NestedKey × V)} {es : Array DictEntry} {ep : Nat} (x : DNx P w K H d kvs es ep) (hd : H' d = H d) (e : ExT H H') : DNx P w K H' d kvs es ep := by
  obtain ⟨xs, h1, h2⟩ := x.ents
  exact ⟨hd.trans x.at_, x.sm, ⟨xs, h1, Paired.mono (fun p q z => ⟨z.1, KIs.ext e _ _ z.2.1, z.2.2⟩) h2⟩, x.nd, x.len⟩
theorem DN.stay {P : Program} {w : World} {K : PySem.W.Frag} {H H' : Hp} {d : Addr} {kvs : List (NestedKey × V)} (x : DN P w K H d kvs) (hd : H' d = H d) (e : ExT H H') : DN P w K H' d kvs :=
  let ⟨es, ep, y⟩ := x; ⟨es, ep, y.stay hd e⟩
theorem DN.some {P : Program} {w : World} {K : PySem.W.Frag} {H : Hp} {d : Addr} {kvs : List (NestedKey × V)} (x : DN P w K H d kvs) : ∃ o, H d = some o := let ⟨_, _, y⟩ := x; ⟨_, y.at_⟩
theorem DN.ex {P : Program} {w : World} {K : PySem.W.Frag} {H H' : Hp} {d : Addr} {kvs : List (NestedKey × V)} (x : DN P w K H d kvs) (e : Ex H H') : DN P w K H' d kvs := by
  obtain ⟨o, ho⟩ := x.some
  exact x.stay ((e d o ho).trans ho.symm) e.t
theorem paired_keys {K : PySem.W.Frag} {H : Hp} : ∀ {kvs : List (NestedKey × V)} {xs : List Ent}, Paired (EntOk K H) kvs xs → xs.map (·.1) = kvs.map (·.1)
  | _, _, .nil => rfl
  | _, _, .cons r t => by rw [List.map_cons, List.map_cons, paired_keys t, r.1]

section
variable {X : Cx} {pins : List (Addr × Obj)} {σ : L2.St} {H : Hp} {s : Shared} {d : Addr} {kvs : List (NestedKey × V)} {es : Array DictEntry} {ep : Nat}
theorem ent_is (I : Inv X pins σ H s) : ∀ {kvs : List (NestedKey × V)} {xs : List Ent}, Paired (EntOk X.K H) kvs xs → ∀ x ∈ xs, (nestedKind X.prog X.w).is s.heap x.1 x.2.1
  | _, _, .nil, _, h => nomatch h
  | _, _, .cons (a := p) (b := q) r t, x, h => by
    rcases List.mem_cons.mp h with z | z
    · rw [z]
      refine ⟨?_, by have := r.2.2.1; rw [r.1] at this; exact this⟩
      have := kis_heap I p.1 _ (.ref q.2.1) r.2.1 rfl
      rw [r.1] at this
      exact this
    · exact ent_is I t x z
theorem dn_heap (I : Inv X pins σ H s) (x : DNx X.prog X.w X.K H d kvs es ep) : ∃ xs : List Ent, s.heap.DictOfH (nestedKind X.prog X.w) d xs ∧ Paired (EntOk X.K H) kvs xs := by
  obtain ⟨xs, h1, h2⟩ := x.ents
  obtain ⟨o, ho, hc, hd⟩ := draw_at I.hok x.at_
  exact ⟨xs, ⟨o, es, ep, ho, hc, hd, h1, ent_is I h2, by rw [paired_keys h2]; exact x.nd⟩, h2⟩
end

/-! ### looked up, stored -/
def getN (kvs : List (NestedKey × V)) (k : NestedKey) : Option V := (kvs.find? fun p => decide (p.1 = k)).map (·.2)
def putN (kvs : List (NestedKey × V)) (k : NestedKey) (v : V) : List (NestedKey × V) := if (kvs.any fun p => decide (p.1 = k)) = true then kvs.map fun p => if p.1 = k then (p.1, v) else p else kvs ++ [(k, v)]
def delN (kvs : List (NestedKey × V)) (k : NestedKey) : List (NestedKey × V) := kvs.filter fun p => !decide (p.1 = k)
theorem at_paired {K : PySem.W.Frag} {H : Hp} (k : NestedKey) : ∀ {kvs : List (NestedKey × V)} {xs : List Ent}, Paired (EntOk K H) kvs xs → (getN kvs k = none ∧ atKey xs k = none) ∨ ∃ v a u, getN kvs k = some v ∧ atKey xs k = some (a, u) ∧ RelV v u
  | _, _, .nil => .inl ⟨rfl, rfl⟩
  | _, _, .cons (a := p) (b := q) (l₁ := l) (l₂ := m) r t => by
    by_cases h : p.1 = k
    · have h' : q.1 = k := r.1.symm.trans h
      refine .inr ⟨p.2, q.2.1, q.2.2, ?_, ?_, r.2.2.2⟩
      · simp [getN, List.find?_cons, h]
      · simp [atKey, List.find?_cons, h']
    · have h' : ¬ q.1 = k := fun z => h (r.1.trans z)
      have e1 : getN (p :: l) k = getN l k := by unfold getN; rw [List.find?_cons, decide_eq_false h]
      have e2 : atKey (q :: m) k = atKey m k := by unfold atKey; rw [List.find?_cons, decide_eq_false h']
      rw [e1, e2]
      exact at_paired k t
theorem any_paired {K : PySem.W.Frag} {H : Hp} (k : NestedKey) : ∀ {kvs : List (NestedKey × V)} {xs : List Ent}, Paired (EntOk K H) kvs xs → (kvs.any fun p => decide (p.1 = k)) = (atKey xs k).isSome
  | _, _, .nil => rfl
  | _, _, .cons (a := p) (b := q) (l₁ := l) (l₂ := m) r t => by
    by_cases h : p.1 = k
    · have h' : q.1 = k := r.1.symm.trans h
      simp [atKey, List.find?_cons, h, h']
    · have h' : ¬ q.1 = k := fun z => h (r.1.trans z)
      have e2 : atKey (q :: m) k = atKey m k := by unfold atKey; rw [List.find?_cons, decide_eq_false h']
      rw [e2, List.any_cons, decide_eq_false h, any_paired k t, Bool.false_or]
theorem put_paired {K : PySem.W.Frag} {H : Hp} {k : NestedKey} {v : V} {a : Addr} {u : Value} (hk : KIs K H k (.ref a)) (hd : k.depth ≤ 8) (r : RelV v u) {kvs : List (NestedKey × V)} {xs : List Ent} (h : Paired (EntOk K H) kvs xs) :
    Paired (EntOk K H) (putN kvs k v) (storedH xs k a u) := by
  unfold putN storedH
  rw [any_paired k h]
  cases q : (atKey xs k).isSome with
  | true =>
    rw [if_pos rfl, if_pos rfl]
    clear q
    induction h with
    | nil => exact .nil
    | @cons p q l m r0 t ih =>
      refine .cons ?_ ih
      by_cases z : p.1 = k
      · have z' : q.1 = k := r0.1.symm.trans z
        simp only [z, z', putAt, if_true]
        exact ⟨rfl, by have := r0.2.1; rw [z] at this; exact this, hd, r⟩
      · have z' : ¬ q.1 = k := fun y => z (r0.1.trans y)
        simp only [z, z', putAt, if_false]
        exact r0
  | false =>
    rw [if_neg (by decide), if_neg (by decide)]
    clear q
    induction h with
    | nil => exact .cons ⟨rfl, hk, hd, r⟩ .nil
    | cons r0 t ih => exact .cons r0 ih
theorem del_paired {K : PySem.W.Frag} {H : Hp} {k : NestedKey} {kvs : List (NestedKey × V)} {xs : List Ent} (h : Paired (EntOk K H) kvs xs) : Paired (EntOk K H) (delN kvs k) (withoutH xs k) := by
  unfold delN withoutH
  induction h with
  | nil => exact .nil
  | @cons p q l m r0 t ih =>
    by_cases z : p.1 = k
    · have z' : q.1 = k := r0.1.symm.trans z
      simpa [List.filter_cons, z, z'] using ih
    · have z' : ¬ q.1 = k := fun y => z (r0.1.trans y)
      have e : decide (q.1 ≠ k) = true := decide_eq_true z'
      simp only [List.filter_cons, z, e, decide_false, Bool.not_false, if_true]
      exact .cons r0 ih

section
variable {X : Cx} {pins : List (Addr × Obj)} {σ : L2.St} {H : Hp} {s : Shared} {d a : Addr} {k : NestedKey} {kvs : List (NestedKey × V)}
/-- k in d | k not in d -/
def rInN (P : Program) (w : World) (K : PySem.W.Frag) (neg : Bool) : R2 := fun x y H Q => ∃ a d k kvs, x = .ref a ∧ y = .ref d ∧ KIs K H k (.ref a) ∧ k.depth ≤ 8 ∧ DN P w K H d kvs ∧ Q (.bl (if neg = true then !(getN kvs k).isSome else (getN kvs k).isSome)) H
theorem some_paired {K : PySem.W.Frag} {H : Hp} {xs : List Ent} (h : Paired (EntOk K H) kvs xs) : (atKey xs k).isSome = (getN kvs k).isSome := by
  rcases at_paired k h with ⟨h1, h2⟩ | ⟨v, a, u, h1, h2, _⟩ <;> rw [h1, h2] <;> rfl
theorem op_inN (hu : X.A.units + 64 < cLine) : OpR X (compareOp .In) (rInN X.prog X.w X.K false) := by
  intro pins s σ H x y v u Q I rx ry h
  obtain ⟨a, d, k, kvs, rfl, rfl, hk, hd, ⟨es, ep, x⟩, q⟩ := h
  cases rx; cases ry
  obtain ⟨xs, hm, hp⟩ := dn_heap I x
  refine wpAny_in_heap (knd := nestedKind X.prog X.w) (k := k) (by show X.A.in1.units + 8 < cLine; rw [Around.in1_units]; omega) ⟨kis_heap I k _ _ hk rfl, hd⟩ x.sm hm ?_
  rw [some_paired hp]
  exact ⟨.bl _, H, I.tok _, rfl, q⟩
theorem op_notInN (hu : X.A.units + 64 < cLine) : OpR X (compareOp .NotIn) (rInN X.prog X.w X.K true) := by
  intro pins s σ H x y v u Q I rx ry h
  obtain ⟨a, d, k, kvs, rfl, rfl, hk, hd, ⟨es, ep, x⟩, q⟩ := h
  cases rx; cases ry
  obtain ⟨xs, hm, hp⟩ := dn_heap I x
  show wpAny _ _ (contains (.ref d) (.ref a) >>= fun b => pure (Value.bool (!b))) _ _ _
  refine wpAny_bind (wpAny_contains_heap (knd := nestedKind X.prog X.w) (k := k) (by show X.A.in1.units + 8 < cLine; rw [Around.in1_units]; omega) ⟨kis_heap I k _ _ hk rfl, hd⟩ x.sm hm ?_)
  rw [some_paired hp]
  exact wpAny_pure ⟨.bl _, H, I.tok _, rfl, q⟩
/-- d[k], the key there -/
def rIxN (P : Program) (w : World) (K : PySem.W.Frag) : R2 := fun x y H Q => ∃ a d k kvs v, x = .ref d ∧ y = .ref a ∧ KIs K H k (.ref a) ∧ k.depth ≤ 8 ∧ DN P w K H d kvs ∧ getN kvs k = some v ∧ Q v H
theorem ix_dn (hu : X.A.units + 64 < cLine) : IxR X (rIxN X.prog X.w X.K) := by
  intro value slice pins s σ H x y v u Q I rx ry h hs
  obtain ⟨a, d, k, kvs, z, rfl, rfl, hk, hd, ⟨es, ep, x⟩, hz, q⟩ := h
  cases rx; cases ry
  obtain ⟨xs, hm, hp⟩ := dn_heap I x
  rcases at_paired k hp with ⟨h1, _⟩ | ⟨z', a', u', h1, h2, h3⟩
  · rw [hz] at h1; cases h1
  · rw [hz] at h1; cases h1
    refine tail_any hm.typeIs slot_dict_getitem.lookup ?_ hs
    exact wpAny_getItem_heap (knd := nestedKind X.prog X.w) (k := k) (by show X.A.in1.units + 8 < cLine; rw [Around.in1_units]; omega) ⟨kis_heap I k _ _ hk rfl, hd⟩ hm h2 ⟨z, H, I.tok _, h3, q⟩
/-- the dict written -/
theorem dn_put {w : World} {P : Program} {K : PySem.W.Frag} {H : Hp} {xs : List Ent} {h' : Heap} (x : DN P w K H d kvs) (e : h'.DictOfH (nestedKind P w) d xs) {kvs' : List (NestedKey × V)} (hp : Paired (EntOk K H) kvs' xs) (hl : kvs'.length ≤ sizeLine) :
    ∃ es ep, h'.DictRaw d es ep ∧ DNx P w K (upd H d (DRaw d es ep)) d kvs' es ep := by
  obtain ⟨o, es, ep, ho, hc, hd, he, _, hn⟩ := e
  obtain ⟨es0, ep0, x⟩ := x
  refine ⟨es, ep, ⟨o, ho, hc, hd⟩, upd_same, x.sm, ⟨xs, he, Paired.mono (fun p q z => ⟨z.1, KIs.ext (fun b ys r => ?_) _ _ z.2.1, z.2.2⟩) hp⟩, by rw [← paired_keys hp]; exact hn, hl⟩
  rcases r with r | ⟨ob, r⟩
  · exact Or.inl ((upd_ne (fun q => by rw [q, x.at_] at r; exact draw_tup (Option.some.inj r))).trans r)
  · exact Or.inr ⟨ob, (upd_ne (fun q => by rw [q, x.at_] at r; exact draw_frz (Option.some.inj r))).trans r⟩
/-- d[k] = v -/
def rSetN (P : Program) (w : World) (K : PySem.W.Frag) : V → V → V → Hp → (Hp → Prop) → Prop := fun o i v H Q => ∃ a d k kvs, o = .ref d ∧ i = .ref a ∧ KIs K H k (.ref a) ∧ k.depth ≤ 8 ∧ DN P w K H d kvs ∧ kvs.length < sizeLine ∧
  ∀ H', DN P w K H' d (putN kvs k v) → (∀ b, b ≠ d → H' b = H b) → Q H'
theorem putN_len {kvs : List (NestedKey × V)} {k : NestedKey} {v : V} : (putN kvs k v).length ≤ kvs.length + 1 := by
  unfold putN
  split
  · rw [List.length_map]; omega
  · rw [List.length_append]; exact Nat.le_refl _
theorem set_dn (hu : X.A.units + 64 < cLine) : PSet X (rSetN X.prog X.w X.K) := by
  intro pins s σ H o i v ov iv u Q I ro ri rv h
  obtain ⟨a, d, k, kvs, rfl, rfl, hk, hd, hx, hl, q⟩ := h
  cases ro; cases ri
  obtain ⟨es, ep, x⟩ := id hx
  obtain ⟨xs, hm, hp⟩ := dn_heap I x
  have hlen : xs.length ≤ sizeLine := by rw [← Paired.length hp]; exact x.len
  refine wpAny_setItem_heap (hsz := hlen) (knd := nestedKind X.prog X.w) (k := k) (by show X.A.in1.units + 8 < cLine; rw [Around.in1_units]; omega) ⟨kis_heap I k _ _ hk rfl, hd⟩ hm fun h' hm' sb => ?_
  obtain ⟨es', ep', hr, hx'⟩ := dn_put hx hm' (put_paired hk hd rv hp) (Nat.le_trans putN_len hl)
  obtain ⟨o', ho', _⟩ := id hr
  exact ⟨_, I.write (x := d) (e := d) (o := DRaw d es' ep') (by rw [x.at_]; exact draw_mut) (.inl rfl) (fun b ob hb e => (sb.2 b hb).trans e) ⟨o', ho'⟩ (draw_ok hr), q _ ⟨es', ep', hx'⟩ fun b hb => upd_ne hb⟩
/-- {} that will hold tuples -/
def tNewN (P : Program) (w : World) (K : PySem.W.Frag) : TE := fun _ H Q => ∀ d H', H d = none → DN P w K H' d [] → (∀ b, b ≠ d → H' b = H b) → Q (.ref d) H'
theorem raw_new (h : Heap) : (h.push ({ cls := .type "dict", data := .dict #[] } : Obj)).DictRaw h.objs.size #[] 0 :=
  ⟨_, Heap.get?_push_size _ rfl, ⟨rfl, rfl, rfl⟩, rfl⟩
theorem dn_new (I : Inv X pins σ H s) : Inv X pins σ (upd H s.heap.objs.size (DRaw s.heap.objs.size #[] 0)) { s with heap := s.heap.push { cls := .type "dict", data := .dict #[] } } ∧
    DN X.prog X.w X.K (upd H s.heap.objs.size (DRaw s.heap.objs.size #[] 0)) s.heap.objs.size [] ∧ H s.heap.objs.size = none := by
  refine ⟨I.laid (a := s.heap.objs.size) (t' := s.toks) (fun _ _ q => Heap.get?_push_of_some _ q) (Nat.le_refl _) (draw_ok (raw_new s.heap)), ⟨#[], 0, upd_same, ?_, ⟨[], rfl, .nil⟩, List.nodup_nil, Nat.zero_le _⟩, I.hok.fresh (Nat.le_refl _)⟩
  exact beq_eq_false_iff_ne.mpr (Ne.symm (Nat.ne_of_lt I.big))
theorem pe_newN {pos : Pos} : PE X (.Dict [] [] pos) (tNewN X.prog X.w X.K) := ⟨fun pins s σ H Q I h => by
  obtain ⟨I1, x, n⟩ := dn_new I
  exact wpAny_Dict_empty ⟨.ref s.heap.objs.size, _, I1, rfl, h _ _ n x fun b hb => upd_ne hb⟩⟩
/-- {k: v, ..} with keys that are tuples; the new dict stands empty while the pairs are made -/
def KeysOf (K : PySem.W.Frag) (H : Hp) (ps : List (V × V)) (kvs : List (NestedKey × V)) : Prop := Paired (fun (p : V × V) (q : NestedKey × V) => (∃ a, p.1 = .ref a) ∧ KIs K H q.1 p.1 ∧ q.1.depth ≤ 8 ∧ p.2 = q.2) ps kvs
def mergeN (kvs more : List (NestedKey × V)) : List (NestedKey × V) := more.foldl (fun acc p => putN acc p.1 p.2) kvs
theorem mergeN_len : ∀ (more kvs : List (NestedKey × V)), (mergeN kvs more).length ≤ kvs.length + more.length
  | [], kvs => Nat.le_refl _
  | p :: r, kvs => by
    have h1 := mergeN_len r (putN kvs p.1 p.2)
    have h2 := putN_len (kvs := kvs) (k := p.1) (v := p.2)
    show (mergeN (putN kvs p.1 p.2) r).length ≤ _
    rw [List.length_cons]; omega
theorem merge_paired {K : PySem.W.Frag} {H : Hp} : ∀ {more : List (NestedKey × V)} {rs : List Ent} {kvs : List (NestedKey × V)} {xs : List Ent}, Paired (EntOk K H) more rs → Paired (EntOk K H) kvs xs → Paired (EntOk K H) (mergeN kvs more) (storedAllH xs rs)
  | _, _, kvs, xs, .nil, h => h
  | _, _, kvs, xs, .cons (a := p) (b := q) r t, h => by
    refine merge_paired (kvs := putN kvs p.1 p.2) (xs := storedH xs q.1 q.2.1 q.2.2) t ?_
    have e := put_paired (k := p.1) r.2.1 r.2.2.1 r.2.2.2 h
    rw [← r.1]; exact e
theorem carries_keys (I : Inv X pins σ H s) : ∀ {ps : List (V × V)} {ws : List (Value × Value)} {kvs : List (NestedKey × V)}, VV ps ws → KeysOf X.K H ps kvs → ∃ rs : List Ent, CarriesH (nestedKind X.prog X.w) s.heap ws rs ∧ Paired (EntOk X.K H) kvs rs
  | _, _, _, .nil, h => by cases h; exact ⟨[], True.intro, .nil⟩
  | _, _, _, .cons r t, h => by
    cases h with
    | @cons p q l m h1 h2 =>
      obtain ⟨⟨a, ea⟩, hk, hd, ev⟩ := h1
      obtain ⟨rs, c, q2⟩ := carries_keys I t h2
      obtain ⟨r1, r2⟩ := r
      rw [ea] at r1 hk
      exact ⟨(q.1, a, _) :: rs, ⟨r1, rfl, ⟨kis_heap I _ _ _ hk rfl, hd⟩, c⟩, .cons ⟨rfl, hk, hd, by rw [← ev]; exact r2⟩ q2⟩
def tDispN (P : Program) (w : World) (K : PySem.W.Frag) (trs : List (TE × TE)) : TE := fun σ H Q => ∀ d H1, H d = none → DN P w K H1 d [] → (∀ b, b ≠ d → H1 b = H b) → tPairs trs σ H1 fun ps H2 => DN P w K H2 d [] ∧ ∃ kvs, KeysOf K H2 ps kvs ∧ kvs.length ≤ 15 ∧
  ∀ H3, DN P w K H3 d (mergeN [] kvs) → (∀ b, b ≠ d → H3 b = H2 b) → Q (.ref d) H3
theorem pe_dispN {pos : Pos} {keys : List (Option Expr)} {values : List Expr} {trs : List (TE × TE)} (hu : X.A.units + 64 < cLine) (h : PPs X pos keys values trs) (hall : keys.all (·.isSome) = true) (hl : keys.length = values.length) (h0 : keys ≠ [])
    (h15 : keys.length ≤ 15) : PE X (.Dict keys values pos) (tDispN X.prog X.w X.K trs) := by
  refine ⟨fun pins s σ H Q I q => ?_⟩
  obtain ⟨I1, x1, n1⟩ := dn_new I
  have hn := pairTrees_length keys values X.env pos hall hl
  have hu8 : (nestedKind X.prog X.w).room X.A := by show X.A.units + 8 < cLine; omega
  rw [arm_eval_Dict, zip_pairTrees keys values X.env pos hall hl, dictDisplay_pairs (pairTrees keys values X.env pos) (fun he => h0 (List.length_eq_zero_iff.mp (by rw [← hn, he]; rfl))) (by rw [hn]; omega)]
  refine wpAny_bind (wpAny_standAt (wpAny_bind (wpAny_subDictH (knd := nestedKind X.prog X.w) hu8 (by rw [hn]; exact h15)
    (thn (h.run pins _ σ _ _ I1 (q _ _ n1 x1 fun b hb => upd_ne hb)) fun ws s2 ⟨ps, H2, I2, rel, x2, kvs, hk, h15', q2⟩ => ?_))))
  obtain ⟨rs, c, hp⟩ := carries_keys I2 rel hk
  obtain ⟨es2, ep2, y2⟩ := id x2
  obtain ⟨xs2, hm2, hp2⟩ := dn_heap I2 y2
  cases hp2
  refine ⟨rs, c, hm2, fun h' tk hd' sb => wpAny_pure ?_⟩
  have hl3 := mergeN_len kvs []
  rw [List.length_nil] at hl3
  obtain ⟨es', ep', hr, hx'⟩ := dn_put x2 hd' (merge_paired hp .nil) (by rw [sizeLine_eq]; omega)
  obtain ⟨o', ho', _⟩ := id hr
  exact ⟨.ref s.heap.objs.size, _, I2.write (t' := tk) (x := s.heap.objs.size) (e := s.heap.objs.size) (o := DRaw s.heap.objs.size es' ep') (by rw [y2.at_]; exact draw_mut) (.inl rfl) (fun b ob hb e => (sb.2 b hb).trans e) ⟨o', ho'⟩ (draw_ok hr), rfl, q2 _ ⟨es', ep', hx'⟩ fun b hb => upd_ne hb⟩
/-- len(d) -/
theorem call_lenN : CallR X (.builtin "len") (fun xs H Q => ∃ d kvs, xs = [.ref d] ∧ DN X.prog X.w X.K H d kvs ∧ Q (.int (kvs.length : Int)) H) := by
  intro pins s σ H xs us Q I r h
  obtain ⟨d, kvs, rfl, ⟨es, ep, x⟩, q⟩ := h
  obtain ⟨u, rfl, r1⟩ := vals1 r
  cases r1
  obtain ⟨xs, hm, hp⟩ := dn_heap I x
  have hk : s.heap.DictKeyed (nestedKind X.prog X.w) d (pairsH xs) := ⟨xs, hm, rfl⟩
  have e : (pairsH xs).length = kvs.length := by rw [pairsH_length]; exact (Paired.length hp).symm
  have h2 := x.len
  rw [sizeLine_eq] at h2
  refine PyProof.Rows.call_len_slot (n := kvs.length) hm.typeIs F.slot_dict_len (fun Q' hq => len_keyed x.sm hk (by rw [e]; exact hq)) (by omega) (by omega) ?_
  exact ⟨.int _, H, I.tok _, ⟨_, rfl⟩, q⟩
/-- del d[k] -/
def sDelN (P : Program) (w : World) (K : PySem.W.Frag) (to ti : TE) : TS := fun D σ H => to σ H fun x H1 => ti σ H1 fun y H2 => ∃ a d k kvs, x = .ref d ∧ y = .ref a ∧ KIs K H2 k (.ref a) ∧ k.depth ≤ 8 ∧ DN P w K H2 d kvs ∧ (getN kvs k).isSome = true ∧
  ∀ H', DN P w K H' d (delN kvs k) → (∀ b, b ≠ d → H' b = H2 b) → D.nx σ H'
theorem delN_len {kvs : List (NestedKey × V)} {k : NestedKey} : (delN kvs k).length ≤ kvs.length := List.length_filter_le _ _
theorem ps_delN {o i : Expr} {to ti : TE} {tpos pos : Pos} (hu : X.A.units + 64 < cLine) (ho : PE X o to) (hi : PE X i ti) : PS X (.Delete [.Subscript o i tpos] pos) (sDelN X.prog X.w X.K to ti) := by
  refine ⟨fun pins s σ H D I h => ?_⟩
  refine wpAny_Delete (wpAny_deleteEach_cons (wpAny_delete_Subscript (thn (ho.run pins s σ H _ I h) fun u s1 ⟨x, H1, I1, rx, q1⟩ => thn (hi.run pins s1 σ H1 _ I1 q1) fun iv s2 ⟨y, H2, I2, ry, a, d, k, kvs, ex, ey, hk, hd, hx, hs, q2⟩ => ?_)))
  subst ex ey
  cases rx; cases ry
  obtain ⟨es, ep, x⟩ := id hx
  obtain ⟨xs, hm, hp⟩ := dn_heap I2 x
  rcases at_paired k hp with ⟨h1, _⟩ | ⟨z', a', u', h1, h2, h3⟩
  · rw [h1] at hs; cases hs
  · have hlen : xs.length ≤ sizeLine := by rw [← Paired.length hp]; exact x.len
    refine wpAny_delItem_heap (hsz := hlen) (knd := nestedKind X.prog X.w) (k := k) (by show X.A.in1.units + 8 < cLine; rw [Around.in1_units]; omega) ⟨kis_heap I2 k _ _ hk rfl, hd⟩ x.sm hm h2 fun h' hm' sb => ?_
    obtain ⟨es', ep', hr, hx'⟩ := dn_put hx hm' (del_paired hp) (Nat.le_trans delN_len x.len)
    obtain ⟨o', ho', _⟩ := id hr
    exact wpAny_deleteEach_nil ⟨σ, _, I2.write (x := d) (e := d) (o := DRaw d es' ep') (by rw [x.at_]; exact draw_mut) (.inl rfl) (fun b ob hb e => (sb.2 b hb).trans e) ⟨o', ho'⟩ (draw_ok hr), q2 _ ⟨es', ep', hx'⟩ fun b hb => upd_ne hb⟩
end

/-! ### walked by its keys -/
/-- the keys of the dict that lies at d as es, ep tell -/
def ItN (d : Addr) (es : Array DictEntry) (ep : Nat) : It := ⟨fun i H => H d = some (DRaw d es ep) ∧ i < es.size, fun i H x H' => H' = H ∧ ∃ en, es[i]? = some en ∧ RelV x en.key, fun i H => H d = some (DRaw d es ep) ∧ es.size ≤ i⟩
theorem turn_keysN {P : Program} {w : World} {K : PySem.W.Frag} {tg : Expr} {d : Addr} {es : Array DictEntry} {ep : Nat} (it : Addr) (hk : ∀ (i : Nat) (en : DictEntry), es[i]? = some en → ∃ a, en.key = Value.ref a) :
    Turn P w K tg (ItN d es ep) [it] it (fun i h => h.IsKeyIter it d i es.size ep) where
  mem := by simp
  obj := fun i h st b hb => by
    rw [List.mem_singleton.mp hb]
    obtain ⟨oi, e, _, dd⟩ := st
    exact ⟨oi, e, fun v z => by rw [dd] at z; cases z⟩
  keep := fun i h h' st k => st.at fun oi e => k it (by simp) oi e
  item := by
    intro X hP hw hK hc i pins s σ H E I hf st hg
    subst hP hw hK
    obtain ⟨hd, hi⟩ := hg
    have F := hf it (by simp)
    refine wpAny_pyNext_keys_item_raw st (draw_at I.hok hd) hi fun h' st' sb => ?_
    have I1 : Inv X pins σ H { s with heap := h' } := I.turned (t' := s.toks) (fun b ob hb e => (sb.2 b hb).trans e) F.1 F.2.1 F.2.2.2.1 F.2.2.2.2.1 F.2.2.2.2.2
    obtain ⟨a, ea⟩ := hk i es[i] (Array.getElem?_eq_getElem hi)
    obtain ⟨oi, e, c, dd⟩ := id st'
    exact ⟨es[i].key, rfl, go_of (s := { s with heap := h' }) e c dd (by decide) ⟨.ref a, H, I1, ea, ⟨rfl, es[i], Array.getElem?_eq_getElem hi, ea⟩, st', fun b hb => (hf b hb).1⟩⟩
  done := by
    intro X hP hw hK hc i pins s σ H E I hf st hg
    subst hP hw hK
    have F := hf it (by simp)
    exact wpAny_pyNext_keys_end_raw (I.ok.hd hc) st (draw_at I.hok hg.1) hg.2 fun h' eb => ⟨rfl, I.turned (t' := s.toks) (fun b ob hb e => eb b ob hb e) F.1 F.2.1 F.2.2.2.1 F.2.2.2.2.1 F.2.2.2.2.2⟩
  self := fun A i s Q E st h => by
    refine wpAny_pyIter_slot st.typeIs F.slot_dict_keyiterator_iter (wpAny_call_entry F.slot_dict_keyiterator_iter st.typeIs F.entry_dict_keyiterator_iter ?_ (F.args_dict_keyiterator_iter_1 _))
    show wpAny _ _ (ret (.ref it)) _ _ s
    exact wpAny_pure ⟨_, rfl, "dict_keyiterator", _, st.typeIs, F.slot_dict_keyiterator_next.lookup, h⟩
/-- for k in d -/
def iKeysN (P : Program) (w : World) (K : PySem.W.Frag) (td : TE) : TI := fun σ H R => td σ H fun x H1 => ∃ d kvs es ep, x = .ref d ∧ DNx P w K H1 d kvs es ep ∧ R (ItN d es ep) H1
theorem dnx_key {P : Program} {w : World} {K : PySem.W.Frag} {H : Hp} {d : Addr} {kvs : List (NestedKey × V)} {es : Array DictEntry} {ep : Nat} (x : DNx P w K H d kvs es ep) {i : Nat} {en : DictEntry} (h : es[i]? = some en) :
    ∃ a k v, en.key = .ref a ∧ kvs[i]? = some (k, v) ∧ KIs K H k (.ref a) ∧ k.depth ≤ 8 := by
  obtain ⟨xs, h1, h2⟩ := x.ents
  rw [← Array.getElem?_toList, h1, List.getElem?_map] at h
  cases hx : xs[i]? with
  | none => rw [hx] at h; cases h
  | some y =>
    rw [hx] at h
    have e : entryOfKey (nestedKind P w) y = en := Option.some.inj h
    have hi : i < kvs.length := by rw [Paired.length h2]; exact (List.getElem?_eq_some_iff.mp hx).1
    have hq : kvs[i]? = some kvs[i] := List.getElem?_eq_getElem hi
    obtain ⟨z, hz, r⟩ := paired_get h2 hq
    rw [hx] at hz
    cases hz
    exact ⟨y.2.1, kvs[i].1, kvs[i].2, by rw [← e]; rfl, hq, r.2.1, r.2.2.1⟩
theorem dnx_size {P : Program} {w : World} {K : PySem.W.Frag} {H : Hp} {d : Addr} {kvs : List (NestedKey × V)} {es : Array DictEntry} {ep : Nat} (x : DNx P w K H d kvs es ep) : es.size = kvs.length := by
  obtain ⟨xs, h1, h2⟩ := x.ents
  rw [size_of_entries h1, Paired.length h2]
theorem pi_keysN {X : Cx} {tg e : Expr} {td : TE} (he : PE X e td) : PI X tg e (iKeysN X.prog X.w X.K td) := by
  refine ⟨fun pins s σ H R I h => ?_⟩
  refine thn (he.run pins s σ H _ I h) fun u s1 ⟨x, H1, I1, rx, d, kvs, es, ep, ex, y, q⟩ => ?_
  subst ex
  cases rx
  refine wpAny_pyIter_dict_raw y.sm (draw_at I1.hok y.at_) (pi_one (tk := s1.toks) I1 _ (turn_keysN _ fun i en h => ?_) ⟨_, Heap.get?_push_size _ rfl, rfl, rfl⟩ q)
  obtain ⟨a, _, _, ea, _⟩ := dnx_key y h
  exact ⟨a, ea⟩
/-- the loop over the keys -/
theorem for_keysN {P : Program} {w : World} {K : PySem.W.Frag} {H0 : Hp} {d : Addr} {kvs : List (NestedKey × V)} {es : Array DictEntry} {ep : Nat} (x : DNx P w K H0 d kvs es ep) {g : TG} {tb : TS} {D : Ends} {σ : L2.St} {H : Hp} (Pv : Nat → L2.St → Hp → Prop) (h0 : Pv 0 σ H)
    (hl : ∀ i σ H, i ≤ kvs.length → Pv i σ H → H d = some (DRaw d es ep))
    (hs : ∀ i k v a σ H, kvs[i]? = some (k, v) → KIs K H0 k (.ref a) → k.depth ≤ 8 → Pv i σ H → g (.ref a) σ H fun σ2 H2 => tb { D with nx := Pv (i + 1), ct := Pv (i + 1), bk := D.nx } σ2 H2) (hd : ∀ σ H, Pv kvs.length σ H → D.nx σ H) :
    ∃ W : Nat → Nat → L2.St → Hp → Prop, (∃ m, W 0 m σ H) ∧ ∀ i m σ H, W i m σ H →
      ((ItN d es ep).stop i H ∧ D.nx σ H) ∨ ((ItN d es ep).go i H ∧ ∃ N : L2.St → Hp → Prop, (∀ σ' H', N σ' H' → ∃ m', m' < m ∧ W (i + 1) m' σ' H') ∧ ∀ x H', (ItN d es ep).yld i H x H' → g x σ H' fun σ2 H2 => tb { D with nx := N, ct := N, bk := D.nx } σ2 H2) := by
  have hz := dnx_size x
  refine ⟨fun i m σ H => m = kvs.length - i ∧ i ≤ kvs.length ∧ Pv i σ H, ⟨kvs.length, by omega, Nat.zero_le _, h0⟩, ?_⟩
  rintro i m σ H ⟨rfl, hi, p⟩
  have q := hl i σ H hi p
  by_cases hlt : i < kvs.length
  · refine .inr ⟨⟨q, by omega⟩, Pv (i + 1), fun σ' H' p' => ⟨kvs.length - (i + 1), by omega, rfl, hlt, p'⟩, fun y H' z => ?_⟩
    obtain ⟨e, en, h1, h2⟩ := z
    subst e
    obtain ⟨a, k, v, ea, hk, k1, k2⟩ := dnx_key x h1
    have ey : y = .ref a := by
      rw [ea] at h2
      exact RelV.inj h2 (show RelV (V.ref a) (Value.ref a) from rfl)
    subst ey
    exact hs i k v a σ _ hk k1 k2 p
  · have e : i = kvs.length := by omega
    exact .inl ⟨⟨q, by omega⟩, hd σ H (e ▸ p)⟩
/-- a list comprehension over the keys -/
theorem lc_keysN {P : Program} {w : World} {K : PySem.W.Frag} {H0 : Hp} {d : Addr} {kvs : List (NestedKey × V)} {es : Array DictEntry} {ep : Nat} (x : DNx P w K H0 d kvs es ep) {g : TG} {tt : TT} {te : TE} {vs : List Nat} {σ : L2.St} {H1 : Hp} {D : Addr} {Qd : Hp → Prop} (Pv : Nat → Hp → Prop) (h0 : Pv 0 (L2.upd H1 D (.lst [])))
    (hl : ∀ i H, i ≤ kvs.length → Pv i H → H d = some (DRaw d es ep))
    (hs : ∀ i k v a H, kvs[i]? = some (k, v) → KIs K H0 k (.ref a) → k.depth ≤ 8 → Pv i H → g (.ref a) (wipe σ vs) H fun σ2 H2 => wipe σ2 vs = wipe σ vs ∧ tt σ2 H2 fun b H3 =>
      if b = true then te σ2 H3 fun y H4 => ∃ acc, H4 D = some (.lst acc) ∧ acc.length < sizeLine ∧ Pv (i + 1) (L2.upd H4 D (.lst (acc ++ [y]))) else Pv (i + 1) H3) (hd : ∀ H, Pv kvs.length H → Qd H) :
    ∃ W : Nat → Nat → Hp → Prop, (∃ m, W 0 m (L2.upd H1 D (.lst []))) ∧ ∀ i m H, W i m H →
      ((ItN d es ep).stop i H ∧ Qd H) ∨ ((ItN d es ep).go i H ∧ ∃ Nx : Hp → Prop, (∀ H', Nx H' → ∃ m', m' < m ∧ W (i + 1) m' H') ∧ ∀ x H', (ItN d es ep).yld i H x H' → g x (wipe σ vs) H' fun σ2 H2 => wipe σ2 vs = wipe σ vs ∧ tt σ2 H2 fun b H3 =>
        if b = true then te σ2 H3 fun y H4 => ∃ acc, H4 D = some (.lst acc) ∧ acc.length < sizeLine ∧ Nx (L2.upd H4 D (.lst (acc ++ [y]))) else Nx H3) := by
  have hz := dnx_size x
  refine ⟨fun i m H => m = kvs.length - i ∧ i ≤ kvs.length ∧ Pv i H, ⟨kvs.length, by omega, Nat.zero_le _, h0⟩, ?_⟩
  rintro i m H ⟨rfl, hi, p⟩
  have q := hl i H hi p
  by_cases hlt : i < kvs.length
  · refine .inr ⟨⟨q, by omega⟩, Pv (i + 1), fun H' p' => ⟨kvs.length - (i + 1), by omega, rfl, hlt, p'⟩, fun y H' z => ?_⟩
    obtain ⟨e, en, h1, h2⟩ := z
    subst e
    obtain ⟨a, k, v, ea, hk, k1, k2⟩ := dnx_key x h1
    have ey : y = .ref a := by
      rw [ea] at h2
      exact RelV.inj h2 (show RelV (V.ref a) (Value.ref a) from rfl)
    subst ey
    exact hs i k v a _ hk k1 k2 p
  · have e : i = kvs.length := by omega
    exact .inl ⟨⟨q, by omega⟩, hd H (e ▸ p)⟩
end Fs

set_option Elab.async false
set_option linter.all false
set_option maxRecDepth 100000
set_option maxHeartbeats 4000000
/-! FsExc: an own exception whose __init__ says super().__init__(text) first. -/
namespace Fs
open PySem PySem.Spec PyProof.Rows L2

theorem lookup_nodup {α : Type} {x : Str} {u : α} : ∀ {l : List (Str × α)}, (l.map (·.1)).Nodup → (x, u) ∈ l → l.lookup x = some u
  | [], _, h => by cases h
  | (y, w) :: r, nd, h => by
    rw [List.map_cons, List.nodup_cons] at nd
    by_cases e : x = y
    · subst e
      rcases List.mem_cons.mp h with q | q
      · cases q; simp [List.lookup]
      · exact absurd (List.mem_map.mpr ⟨_, q, rfl⟩) nd.1
    · have e' : (x == y) = false := by simpa using e
      rcases List.mem_cons.mp h with q | q
      · cases q; exact absurd rfl e
      · simp only [List.lookup, e']; exact lookup_nodup nd.2 q
theorem zip_keys {α : Type} : ∀ {ps : List Str} {us : List α}, ps.Nodup → ((ps.zip us).map (·.1)).Nodup
  | [], _, _ => by simp
  | _ :: _, [], _ => by simp
  | p :: ps, u :: us, nd => by
    rw [List.nodup_cons] at nd
    rw [List.zip_cons_cons, List.map_cons, List.nodup_cons]
    refine ⟨fun h => ?_, zip_keys nd.2⟩
    obtain ⟨⟨a, b⟩, h1, h2⟩ := List.mem_map.mp h
    subst h2
    exact nd.1 (List.of_mem_zip h1).1
theorem zip_mem {α : Type} : ∀ {ps : List Str} {us : List α} {i : Nat} {x : Str} {u : α}, ps[i]? = some x → us[i]? = some u → (x, u) ∈ ps.zip us
  | [], _, _, _, _, h, _ => by simp at h
  | _ :: _, [], _, _, _, _, h => by simp at h
  | p :: ps, w :: us, 0, x, u, h1, h2 => by simp at h1 h2; subst h1; subst h2; simp
  | p :: ps, w :: us, i + 1, x, u, h1, h2 => by
    rw [List.zip_cons_cons]
    exact List.mem_cons_of_mem _ (zip_mem (i := i) (by simpa using h1) (by simpa using h2))
theorem rev_zip {α : Type} {ps : List Str} {us : List α} {i : Nat} {x : Str} {u : α} (nd : ps.Nodup) (h1 : ps[i]? = some x) (h2 : us[i]? = some u) : (ps.zip us).reverse.lookup x = some u := by
  refine lookup_nodup ?_ (List.mem_reverse.mpr (zip_mem h1 h2))
  rw [List.map_reverse]
  exact (List.reverse_perm _).symm.nodup (zip_keys nd)

/-- the names of such an __init__ -/
structure ExcS (N P : List Str) (sc : Scope) : Prop where
  kind : sc.kind = .function
  co : sc.isCoroutine = false
  gen : sc.isGenerator = false
  nd : N.Nodup
  pre : N.take P.length = P
  par : ∀ x ∈ P, sc.names.lookup x = some .local
  nocell : ∀ y ∈ sc.names, y.2 ≠ .cell
  free : ∀ y, sc.names.lookup y = some .free → y = "__class__"
  sup : sc.names.lookup ("super" : Str) = some .globalImplicit
  cls : sc.names.lookup ("__class__" : Str) = some .free
def excSB (N P : List Str) (sc : Scope) : Bool := decide (sc.kind = .function) && !sc.isCoroutine && !sc.isGenerator && decide N.Nodup && decide (N.take P.length = P) && P.all (fun x => decide (sc.names.lookup x = some .local)) &&
  sc.names.all (fun y => !decide (y.2 = .cell) && (!decide (y.2 = .free) || decide (y.1 = "__class__"))) && decide (sc.names.lookup ("super" : Str) = some .globalImplicit) && decide (sc.names.lookup ("__class__" : Str) = some .free)
theorem excS_by {N P : List Str} {sc : Scope} (h : excSB N P sc = true) : ExcS N P sc := by
  unfold excSB at h
  simp only [Bool.and_eq_true, Bool.or_eq_true, Bool.not_eq_true', decide_eq_true_eq, decide_eq_false_iff_not, List.all_eq_true] at h
  obtain ⟨⟨⟨⟨⟨⟨⟨⟨h1, h2⟩, h3⟩, h4⟩, h5⟩, h6⟩, h7⟩, h8⟩, h9⟩ := h
  refine ⟨h1, h2, h3, h4, h5, h6, fun y hy => (h7 y hy).1, fun y hy => ?_, h8, h9⟩
  rcases (h7 _ (PySem.mem_of_lookup hy)).2 with z | z
  · exact absurd rfl z
  · exact z

/-- the context of such an __init__'s body -/
def excCx (CX : CXT) (P : Program) (w : World) (K : PySem.W.Frag) (mg : Str → Option Value) (base : Heap) (N : List Str) (qual : Str) (scope : Scope) (f : Addr) (cd : Value) (cc : Addr) (A : Around) (outer : List Env) (s : Shared) (H : Hp) (E : XK) : Cx where
  prog := P
  w := w
  K := K
  mg := mg
  base := base
  A := A.deeper (PySem.W.ksEnv qual scope s.heap.objs.size f cd cc)
  N := N
  s_0 := s
  H_0 := H
  env := PySem.W.ksEnv qual scope s.heap.objs.size f cd cc
  outer := outer
  stack := PySem.W.ksEnv qual scope s.heap.objs.size f cd cc :: outer
  ex := []
  calm := true
  fn := fun _ => false
  pn := []
  xe := fun e s' => wpAny (model P w) (A.deeper (PySem.W.ksEnv qual scope s.heap.objs.size f cd cc)) (leaving (PySem.W.ksEnv qual scope s.heap.objs.size f cd cc) e) (fun _ s'' => CX outer H s E e s'') (fun e' s'' => CX outer H s E e' s'') s'

theorem exc_start {CX : CXT} {P : Program} {w : World} {K : PySem.W.Frag} {mg : Str → Option Value} {base : Heap} {N ps : List Str} {qual : Str} {scope : Scope} {f cc : Addr} {cd : Value} {A : Around} {outer : List Env} {s : Shared} {H : Hp} {E : XK} {us : List Value} {vs : List V} {h₀ : Heap} {tk : Nat} {v0 : Option Value} {occ : Obj}
    (S : ExcS N ps scope) (hd : A.handled = none) (e0 : Env0 P w K mg base A outer s H) (hl : vs.length = ps.length) (r : Vals vs us) (hcc : base.get? cc = some occ) (hcd : occ.data = .cell v0)
    (hns : h₀.Ns s.heap.objs.size (fun x => (ps.zip us).reverse.lookup x)) (kp : ∀ b o, s.heap.get? b = some o → h₀.get? b = some o) :
    Inv (excCx CX P w K mg base N qual scope f cd cc A outer s H E) [] (L2.start N vs) H { s with heap := h₀, toks := tk } := by
  have hpl : ps.length ≤ N.length := by have := congrArg List.length S.pre; rw [List.length_take] at this; omega
  have ndP : ps.Nodup := by rw [← S.pre]; exact S.nd.sublist (List.take_sublist _ _)
  have noA : ∀ b : Addr, b ∉ (excCx CX P w K mg base N qual scope f cd cc A outer s H E).ex := fun b z => absurd (show b ∈ ([] : List Addr) from z) (by simp)
  have cl : ∀ {y c}, ([("__class__", cc)] : List (Str × Addr)).lookup y = some c → y = "__class__" ∧ c = cc := fun {y c} h => by
    have := PySem.mem_of_lookup h
    rcases List.mem_singleton.mp this with q
    cases q
    exact ⟨rfl, rfl⟩
  have bc : s.heap.get? cc = some occ ∧ H cc = none := e0.bs _ _ hcc
  refine ⟨⟨e0.mod, S.kind, rfl, rfl, Nat.le_refl _, fun y z c h1 h2 => (cl h1).1.trans (cl h2).1.symm, fun y hy => ?_, (fun y c h _ => absurd (show false = true from h) Bool.false_ne_true), fun _ => hd, Around.frames_deeper e0.frames, .inr ⟨rfl, rfl⟩, fun b z => absurd z (noA b), e0.bs, e0.bsz, fun b _ _ => noA b, fun b z => absurd z (noA b), e0.funs, e0.frf⟩,
    rfl, e0.bare, Un.kept kp, ⟨_, hns, fun i y v h1 h2 h3 => ?_⟩, fun y c h => ?_, e0.hok.fresh (Nat.le_refl _), fun y c h => ?_, fun p hp => absurd (show p ∈ ([] : List (Addr × Obj)) from hp) (by simp), e0.hok.kept kp, ?_⟩
  · have hy : scope.names.lookup y = some .cell ∨ scope.names.lookup y = some .free := hy
    rcases hy with hy | hy
    · exact absurd rfl (S.nocell _ (PySem.mem_of_lookup hy))
    · rw [S.free y hy]
      exact ⟨cc, rfl⟩
  · have hi : i < vs.length := by
      unfold L2.start at h2
      by_cases hi : i < vs.length
      · exact hi
      · rw [List.getElem?_append_right (by simpa using hi)] at h2
        rw [List.getElem?_replicate] at h2
        split at h2 <;> cases h2
    have ha : vs[i]? = some v := by
      unfold L2.start at h2
      rw [List.getElem?_append_left (by simpa using hi), List.getElem?_map] at h2
      cases e : vs[i]? with
      | none => rw [e] at h2; cases h2
      | some a => rw [e] at h2; cases h2; rfl
    obtain ⟨u, hu, rv⟩ := r.get ha
    have hp : ps[i]? = some y := by
      rw [← S.pre, List.getElem?_take_of_lt (by omega)]; exact h1
    exact ⟨u, rv, .inl ⟨S.par y (List.mem_of_getElem? hp), rev_zip ndP hp hu⟩⟩
  · obtain ⟨_, e⟩ := cl h
    rw [e]
    exact ⟨v0, occ, kp _ _ bc.1, hcd⟩
  · obtain ⟨_, e⟩ := cl h
    rw [e]
    exact bc.2
  · unfold L2.start
    show _ = N.length
    rw [List.length_append, List.length_map, List.length_replicate]
    omega

/-- what the written part says of the class C, its __init__ at f, the cell that holds C, the code object -/
structure SupE (prog : Program) (K : PySem.W.Frag) (C cc cda : Addr) : Prop where
  own : OexC K C
  mro : PySem.W.mroIn K C (.ref C) = some true
  sup : PySem.W.ks_superIn K C C "__init__" = some (some (.builtin "ValueError.__init__"))
  sub : PySem.W.subIn K (.ref C) (.type "ValueError") = some true
  opq : PySem.W.nsIn K cStatics "thirdparty.any" = some none
  cell : ∃ oc, K.lookup cc = some oc ∧ oc.data = .cell (some (.ref C))
  code : ∃ oc vs file tf, K.lookup cda = some oc ∧ oc.data = .fields vs ∧ vs[2]? = some (.str file tf) ∧ ((prog.main.file : Str) == file) = true
  top : (prog.main.scope.names.lookup ("super" : Str)).isSome = false

/-- super().__init__(text): its positions let it be read so -/
def SupCall (p0 p1 p2 p3 cp : Pos) (msg : Str) (cj : Nat) : Prop := ∀ env : Env, eval (.Call (.Attribute (.Call (.Name "super" p0) [] [] p1) "__init__" p2) [.Constant (.str msg) cj cp] [] p3) env = (do
  let ov ← attributeBase (.Call (.Name "super" p0) [] [] p1) "__init__" env (eval (.Call (.Name "super" p0) [] [] p1) env)
  standAt p2.atName
  let (f, first) ← holding [ov] (getMethod ov "__init__" (pure false))
  callWith p3 f first (backTo p3 (starEach [.Constant (.str msg) cj cp] env)) [])
theorem sup_call_test : SupCall ⟨1, 2, 1, 3⟩ ⟨1, 2, 1, 3⟩ ⟨1, 2, 1, 3⟩ ⟨1, 2, 1, 3⟩ ⟨1, 2, 1, 3⟩ "x" 0 := fun env => rfl
theorem exc_first {prog : Program} {CX : CXT} {w : World} {K : PySem.W.Frag} {mg : Str → Option Value} {base : Heap} {N ps : List Str} {name qual : Str} {params : Arguments} {scope : Scope} {f cc cda C : Addr} {A : Around} {outer : List Env} {s s1 : Shared} {H : Hp} {E : XK} {dV kV doc pm ct oc : Value} {an od : Option Addr} {osl : Array (Option Value)}
    {body rest fb : List Stmt} {p0 p1 p2 p3 p4 cp : Pos} {msg : Str} {cj : Nat} {Q : Flow → Shared → Prop} {E' : Value → Shared → Prop} {σ : L2.St} {H1 : Hp} {a : Addr} {ar : Arg}
    (T : SupE prog K C cc cda) (S : ExcS N ps scope) (lk : K.lookup f = some ⟨oc, od, .func (PySem.W.fnX name qual params body scope [("__class__", cc)] dV kV doc pm an (.ref cda) ct), osl⟩)
    (hp : (params.posonlyargs ++ params.args).head? = some ar) (h0 : N[0]? = some ar.arg) (har : ar.arg ∈ ps) (hse : SupCall p0 p1 p2 p3 cp msg cj) (hms : mg "super" = none)
    (I : Inv (excCx CX prog w K mg base N qual scope f (.ref cda) cc A outer s H E) [] σ H1 s1) (hv : σ[0]? = some (some (.ref a))) (ea : H1 a = some (exo a C none))
    (hq : ∀ s2, Inv (excCx CX prog w K mg base N qual scope f (.ref cda) cc A outer s H E) [] σ H1 s2 → _root_.PySem.wpAt (model prog w) (A.deeper (PySem.W.ksEnv qual scope s.heap.objs.size f (.ref cda) cc)) (.func fb (PySem.W.ksEnv qual scope s.heap.objs.size f (.ref cda) cc)) (execs rest (PySem.W.ksEnv qual scope s.heap.objs.size f (.ref cda) cc)) Q E' s2) :
    _root_.PySem.wpAt (model prog w) (A.deeper (PySem.W.ksEnv qual scope s.heap.objs.size f (.ref cda) cc)) (.func fb (PySem.W.ksEnv qual scope s.heap.objs.size f (.ref cda) cc))
      (execs (.Expr (.Call (.Attribute (.Call (.Name "super" p0) [] [] p1) "__init__" p2) [.Constant (.str msg) cj cp] [] p3) p4 :: rest) (PySem.W.ksEnv qual scope s.heap.objs.size f (.ref cda) cc)) Q E' s1 := by
  obtain ⟨nm, q, Na, bs, bm, sn, sub, ab, col, dd, k0, k1, k2, k3, k5, hC, hbm⟩ := T.own.cls
  have hcl : PySem.W.clsIn K C = some { name := nm, bases := bs, mro := .ref C :: bm, ns := Na, qualname := q, hasDict := true, slotNames := sn, subclasses := sub, abstract := ab, collection := col, hasDel := false } := by unfold PySem.W.clsIn; rw [hC] <;> rfl
  obtain ⟨occ, hcc, hccd⟩ := T.cell
  obtain ⟨oco, vs, file, tf, hco, hcod, hvs, hfile⟩ := T.code
  obtain ⟨t0, ho⟩ := exo_at I.hok ea
  have KX : K.In s1.heap := I.kIn
  refine ks_wpAt_execs_cons (ks_wpAt_Expr_any (env := PySem.W.ksEnv qual scope s.heap.objs.size f (.ref cda) cc) (ks_wpAt_MethodCall ?_ (hse _)) I.quiet)
  refine ks_wpAt_super_base (env := PySem.W.ksEnv qual scope s.heap.objs.size f (.ref cda) cc) S.sup S.cls (by decide) rfl (KX _ _ lk) rfl hp rfl (KX _ _ hco) hcod hvs hfile T.top ?_
  obtain ⟨mb, hb1, hb2⟩ := I.mod.blt
  refine PySem.W.ks_loadName_global S.kind S.sup (Calls.loadGlobal_builtin (env := PySem.W.ksEnv qual scope s.heap.objs.size f (.ref cda) cc) (I.mod.glob.keeps I.bk) hms (hb1.keeps I.bk) ((hb2 "super" (by decide)).trans (show bootBuiltins "super" = some (.type "super") from by kernel_rfl)) ⟨rfl, ?_⟩)
  refine wpAny_loadName_free S.kind S.cls rfl ⟨_, KX _ _ hcc, hccd⟩ ?_
  obtain ⟨m, hn, hlk⟩ := I.loc
  obtain ⟨u, ru, hl⟩ := hlk 0 ar.arg (.ref a) h0 hv (.inl (S.par _ har))
  obtain rfl : u = Value.ref a := ru
  have hm : m ar.arg = some (.ref a) := by
    rcases hl with ⟨_, e⟩ | ⟨k, _⟩
    · exact e
    · have k' : scope.names.lookup ar.arg = some .cell ∨ scope.names.lookup ar.arg = some .free := k
      rw [S.par _ har] at k'
      rcases k' with z | z <;> cases z
  refine wpAny_loadName_local S.kind (S.par _ har) hn hm ?_
  have hCg := KX _ _ hC
  refine ks_wpAny_isType_cls hCg rfl ⟨rfl, ?_⟩
  obtain ⟨hh, g, d, t, os⟩ := s1
  refine ks_wpAny_call_super hCg rfl ho rfl (fun c e => by cases e) (PySem.W.looks_mroIn KX T.mro) (fun h1 hso kp1 => ?_)
  have I1 : Inv (excCx CX prog w K mg base N qual scope f (.ref cda) cc A outer s H E) [] σ H1 ⟨h1, g, d, t, os⟩ := I.kept (t' := t) kp1
  have KX1 : K.In h1 := I1.kIn
  obtain ⟨t1, ho1⟩ := exo_at I1.hok ea
  have J : PySem.W.InstAt h1 a { cls := .ref C, dict := none, data := .fields #[.ref t1, .none, .none, .none, .bool false, .none] } C none := ⟨ho1, rfl, rfl, trivial⟩
  have hne : a ≠ C := fun z => by
    rw [z, (KX1 _ _ hC)] at ho1
    cases ho1
  have hm2 := T.sup
  unfold PySem.W.ks_superIn at hm2
  rw [hcl] at hm2
  refine PySem.W.kxs_getMethod PySem.W.kxs_ValueError hso (PySem.W.looks_opaque KX1 T.opq) (l₀ := .ref C :: bm) ?_ rfl KX1 hm2 (J.type.andThen (PySem.W.looks_subIn KX1 T.sub)) hne (by decide) ?_
  · exact fun A Q E s k q => wpAny_bind ((PySem.W.looks_clsIn KX1 hcl) A _ E s k (wpAny_pure q))
  have kp2 : ∀ b o, h1.get? b = some o → (h1.push (PySem.W.kxs_mw "ValueError.__init__" a)).get? b = some o := fun b o e => Heap.get?_push_of_some _ e
  have hu : (h1.push (PySem.W.kxs_mw "ValueError.__init__" a)).get? h1.objs.size = some (PySem.W.kxs_mw "ValueError.__init__" a) := Heap.get?_push_at rfl rfl
  have I2 : Inv (excCx CX prog w K mg base N qual scope f (.ref cda) cc A outer s H E) [] σ H1 ⟨h1.push (PySem.W.kxs_mw "ValueError.__init__" a), g, d, t + 1, os⟩ := I1.kept (t' := t + 1) kp2
  refine PySem.W.kxs_callWith (i := "ValueError.__init__") (x := a) (by rfl) ?_
  refine Calls.evalArgs_plain ?_
  show wpAny _ _ (spliced [(false, eval (Expr.Constant (Const.str msg) cj cp) (PySem.W.ksEnv qual scope s.heap.objs.size f (Value.ref cda) cc))]) _ _ _
  refine Calls.spliced_cons (Calls.Constant_str ?_)
  refine Calls.spliced_nil ⟨hu, ?_⟩
  have I3 : Inv (excCx CX prog w K mg base N qual scope f (.ref cda) cc A outer s H E) [] σ H1 ⟨h1.push (PySem.W.kxs_mw "ValueError.__init__" a), g, d, t + 1 + 1, os⟩ := I2.tok _
  obtain ⟨t2, ho2⟩ := exo_at I3.hok ea
  refine wpAny_call (codeAny_of_tree ?_)
  show wpAny _ _ (callAny (.ref h1.objs.size) ⟨_, []⟩) _ _ _
  simp only [callAny]
  refine wpAny_bind (wpAny_load hu ?_)
  simp only [PySem.W.kxs_mw, show (Value.type "method-wrapper" == Value.type "method" || Value.type "method-wrapper" == Value.type "builtin_function_or_method" || Value.type "method-wrapper" == Value.type "method-wrapper") = true by decide, if_true]
  refine PySem.W.KFB.if_so (by decide) ?_
  refine wpAny_bind (PySem.W.check_bound_init F.excBase_ValueError.toExcCallFacts (I3.kIn _ _ hC) ho2 rfl ?_)
  refine wpAny_bind (wpAny_pure (wpAny_pure ?_))
  refine ⟨plainId_quiet F.excBase_ValueError.init.plain _, codeAny_builtin F.excBase_ValueError.initEntry ?_⟩
  refine PySem.W.exc_init_tree (cls := .ref C) (t0 := t2) (dv := none) (c2 := .none) (c3 := .none) (b4 := .bool false) ho2 (by simp [sizeLine_eq]) (fun h4 k4 hx _ => ?_)
  have J4 := I3.write (t' := t + 1 + 1) (x := a) (e := a) (o := exo a C none) (by rw [ea]; exact True.intro) (.inl rfl) k4 ⟨_, hx⟩ (exo_ok hx)
  have eu : upd H1 a (exo a C none) = H1 := by
    funext b
    by_cases hb : b = a
    · rw [hb, upd_same, ea]
    · rw [upd_ne hb]
  rw [eu] at J4
  exact hq _ J4

/-- THE RULE: def __init__(self, ..): super().__init__(text); rest -/
theorem fn_exc {prog : Program} {CX : CXT} {w : World} {K : PySem.W.Frag} {mg : Str → Option Value} {base : Heap} {k : Nat} {N ps : List Str} {name qual : Str} {params : Arguments} {scope : Scope} {f cc cda C : Addr} {dV kV doc pm ct oc : Value} {an od : Option Addr} {osl : Array (Option Value)}
    {rest : List Stmt} {p0 p1 p2 p3 p4 cp : Pos} {msg : Str} {cj : Nat} {ar : Arg} {sp : Sp} (T : SupE prog K C cc cda) (S : ExcS N ps scope)
    (lk : K.lookup f = some ⟨oc, od, .func (PySem.W.fnX name qual params (.Expr (.Call (.Attribute (.Call (.Name "super" p0) [] [] p1) "__init__" p2) [.Constant (.str msg) cj cp] [] p3) p4 :: rest) scope [("__class__", cc)] dV kV doc pm an (.ref cda) ct), osl⟩)
    (hcd : PySem.W.codeIn K (.ref cda) qual = true) (hp : (params.posonlyargs ++ params.args).head? = some ar) (h0 : N[0]? = some ar.arg) (har : ar.arg ∈ ps) (hse : SupCall p0 p1 p2 p3 cp msg cj) (hms : mg "super" = none)
    (len : ∀ vs H Q E, sp vs H Q E → vs.length = ps.length) (self : ∀ vs H Q E, sp vs H Q E → ∃ a ws, vs = .ref a :: ws ∧ H a = some (exo a C none))
    (hbody : ∀ (A : Around) (outer : List Env) (s : Shared) (H : Hp) (vs : List V) (Q : VK) (E : XK), Room k (A.deeper (PySem.W.ksEnv qual scope s.heap.objs.size f (.ref cda) cc)) → sp vs H Q E →
      ∃ t, PSs (excCx CX prog w K mg base N qual scope f (.ref cda) cc A outer s H E) rest t ∧ t { nx := fun _ H' => Q .non H', rt := Q } (L2.start N vs) H) :
    FnOk prog w K mg base CX (k + 1) f (PySem.W.fnX name qual params (.Expr (.Call (.Attribute (.Call (.Name "super" p0) [] [] p1) "__init__" p2) [.Constant (.str msg) cj cp] [] p3) p4 :: rest) scope [("__class__", cc)] dV kV doc pm an (.ref cda) ct) ps sp := by
  refine ⟨len, fun A outer s H args us vs Q E hr e0 hb r hsp => ?_⟩
  have hl := len _ _ _ _ hsp
  obtain ⟨a, ws, rfl, ea⟩ := self _ _ _ _ hsp
  have KX : K.In s.heap := e0.mod.kin.keeps fun b o e => (e0.bs b o e).1
  have lim : s.heap.NoLimit := e0.mod.nolimit.keeps fun b o e => (e0.bs b o e).1
  obtain ⟨occ, hcc, hccd⟩ := T.cell
  refine ks_codeAny_call_defAt hr.depth (KX _ _ lk) rfl lim (PySem.W.codeRec_of KX hcd) rfl hb S.nocell (fun ⟨n, v⟩ hy => S.par n (List.of_mem_zip hy).1) (fun h₀ hns kp => ?_) S.co S.gen S.kind
  have I : Inv (excCx CX prog w K mg base N qual scope f (.ref cda) cc A outer s H E) [] (L2.start N (.ref a :: ws)) H { s with heap := h₀, toks := s.toks + (ps.zip us).length } := exc_start S hr.hd e0 hl r (e0.mod.kin _ _ hcc) hccd hns kp
  obtain ⟨t, ht, hq⟩ := hbody A outer s H (.ref a :: ws) Q E (hr.deeper _) hsp
  refine exc_first (N := N) (ps := ps) (H := H) (E := E) (CX := CX) (mg := mg) (base := base) (outer := outer) T S lk hp h0 har hse hms I (by unfold L2.start; rfl) ea fun s2 I2 => wpAt_of_wpAny ?_
  refine wpAny_mono (ht.run [] s2 _ H _ I2 hq) (fun fl s' hs => ?_) fun e s' hs => hs
  have fin : ∀ {σ' : L2.St} {H' : Hp} {v : V} {u : Value}, Inv (excCx CX prog w K mg base N qual scope f (.ref cda) cc A outer s H E) [] σ' H' s' → RelV v u → Q v H' → CE outer prog w H s Q u s' :=
    fun {σ' H' v u} J rv q => ⟨v, H', J.os, J.bare, J.base, J.hok, rv, q⟩
  cases fl with
  | ret u =>
    obtain ⟨v, σ', H', J, rv, q⟩ := hs
    exact fin J rv q
  | next =>
    obtain ⟨σ', H', J, q⟩ := hs
    exact fin (v := V.non) (u := Value.none) J rfl q
  | brk =>
    obtain ⟨_, _, _, q⟩ := hs
    exact False.elim q
  | cont =>
    obtain ⟨_, _, _, q⟩ := hs
    exact False.elim q
/-- __init__ of one field -/
def spE1 (C : Addr) (f1 : Str) : Sp := fun vs H Q _ => ∃ a y, vs = [.ref a, y] ∧ H a = some (exo a C none) ∧ ∀ dx, H dx = none → dx ≠ a → Q .non (upd (upd H dx (exd dx [(f1, y)])) a (exo a C (some dx)))
/-- .. of two -/
def spE2 (C : Addr) (f1 f2 : Str) : Sp := fun vs H Q _ => ∃ a y z, vs = [.ref a, y, z] ∧ H a = some (exo a C none) ∧ ∀ dx, H dx = none → dx ≠ a → Q .non (upd (upd (upd H dx (exd dx [(f1, y)])) a (exo a C (some dx))) dx (exd dx [(f2, z), (f1, y)]))
/-- the exception that C(y) makes -/
theorem mk_e1 {C : Addr} {f1 : Str} {y : V} {H : Hp} {Q : XK} (hq : ∀ d, H d = none → Q (.ref C) (some d) (upd H d (.xd [(f1, y)]))) : ∀ a, H a = none → spE1 C f1 (.ref a :: ([y] ++ [])) (upd H a (exo a C none))
    (fun v H2 => v = .non ∧ ∃ (d : Addr) (fs : List (Str × V)), H2 a = some (exo a C (some d)) ∧ H2 d = some (exd d fs) ∧ H d = none ∧ Q (.ref C) (some d) (upd (del H2 a) d (.xd fs))) (fun _ _ _ => False) := fun a na => by
  refine ⟨a, y, rfl, upd_same, fun dx n ne => ⟨rfl, dx, [(f1, y)], upd_same, by rw [upd_ne ne, upd_same], by rw [upd_ne ne] at n; exact n, ?_⟩⟩
  have n' : H dx = none := by rw [upd_ne ne] at n; exact n
  have e : upd (del (upd (upd (upd H a (exo a C none)) dx (exd dx [(f1, y)])) a (exo a C (some dx))) a) dx (.xd [(f1, y)]) = upd H dx (.xd [(f1, y)]) := by
    funext b
    by_cases hb : b = dx
    · subst hb; rw [upd_same, upd_same]
    · rw [upd_ne hb, upd_ne hb]
      by_cases ha : b = a
      · subst ha; rw [del_same, na]
      · rw [del_ne ha, upd_ne ha, upd_ne hb, upd_ne ha]
  rw [e]
  exact hq dx n'
theorem mk_e2 {C : Addr} {f1 f2 : Str} {y z : V} {H : Hp} {Q : XK} (hq : ∀ d, H d = none → Q (.ref C) (some d) (upd H d (.xd [(f2, z), (f1, y)]))) : ∀ a, H a = none → spE2 C f1 f2 (.ref a :: ([y, z] ++ [])) (upd H a (exo a C none))
    (fun v H2 => v = .non ∧ ∃ (d : Addr) (fs : List (Str × V)), H2 a = some (exo a C (some d)) ∧ H2 d = some (exd d fs) ∧ H d = none ∧ Q (.ref C) (some d) (upd (del H2 a) d (.xd fs))) (fun _ _ _ => False) := fun a na => by
  refine ⟨a, y, z, rfl, upd_same, fun dx n ne => ⟨rfl, dx, [(f2, z), (f1, y)], by rw [upd_ne (Ne.symm ne), upd_same], by rw [upd_same], by rw [upd_ne ne] at n; exact n, ?_⟩⟩
  have n' : H dx = none := by rw [upd_ne ne] at n; exact n
  have e : upd (del (upd (upd (upd (upd H a (exo a C none)) dx (exd dx [(f1, y)])) a (exo a C (some dx))) dx (exd dx [(f2, z), (f1, y)])) a) dx (.xd [(f2, z), (f1, y)]) = upd H dx (.xd [(f2, z), (f1, y)]) := by
    funext b
    by_cases hb : b = dx
    · subst hb; rw [upd_same, upd_same]
    · rw [upd_ne hb, upd_ne hb]
      by_cases ha : b = a
      · subst ha; rw [del_same, na]
      · rw [del_ne ha, upd_ne hb, upd_ne ha, upd_ne hb, upd_ne ha]
  rw [e]
  exact hq dx n'
section
variable {prog : Program} {CX : CXT} {w : World} {K : PySem.W.Frag} {mg : Str → Option Value} {base : Heap} {k : Nat} {N : List Str} {name qual : Str} {params : Arguments} {scope : Scope} {f cc cda C : Addr} {dV kV doc pm ct oc : Value} {an od : Option Addr} {osl : Array (Option Value)}
  {p0 p1 p2 p3 p4 cp q1 q2 q3 q4 q5 q6 q7 q8 : Pos} {msg : Str} {cj : Nat} {ar : Arg} {f1 f2 x1 x2 : Str}
theorem fn_e1 (T : SupE prog K C cc cda) (S : ExcS N ["self", x1] scope) (hno : PySem.W.findIn K (.ref C) f1 = some none)
    (lk : K.lookup f = some ⟨oc, od, .func (PySem.W.fnX name qual params [.Expr (.Call (.Attribute (.Call (.Name "super" p0) [] [] p1) "__init__" p2) [.Constant (.str msg) cj cp] [] p3) p4, .Assign [.Attribute (.Name "self" q1) f1 q2] (.Name x1 q3) q4] scope [("__class__", cc)] dV kV doc pm an (.ref cda) ct), osl⟩)
    (hcd : PySem.W.codeIn K (.ref cda) qual = true) (hp : (params.posonlyargs ++ params.args).head? = some ar) (h0 : N[0]? = some ar.arg) (h1 : N[0]? = some ("self" : Str)) (h2 : N[1]? = some x1) (hse : SupCall p0 p1 p2 p3 cp msg cj) (hms : mg "super" = none)
    (hd1 : (x1 == ("__debug__" : Str)) = false := by decide) (hd2 : (x1 == ("__classdict__" : Str)) = false := by decide)
    (hsw : ∀ env, swapsWith (.Name x1 q3) (some (.Attribute (.Name "self" q1) f1 q2)) q4.line env = pure false := by exact fun _ => rfl) :
    FnOk prog w K mg base CX (k + 1) f (PySem.W.fnX name qual params [.Expr (.Call (.Attribute (.Call (.Name "super" p0) [] [] p1) "__init__" p2) [.Constant (.str msg) cj cp] [] p3) p4, .Assign [.Attribute (.Name "self" q1) f1 q2] (.Name x1 q3) q4] scope [("__class__", cc)] dV kV doc pm an (.ref cda) ct) ["self", x1] (spE1 C f1) := by
  have e1 : ar.arg = "self" := Option.some.inj (h0.symm.trans h1)
  refine fn_exc T S lk hcd hp h0 (by rw [e1]; simp) hse hms (fun vs H Q E ⟨a, y, e, _⟩ => by rw [e]; rfl) (fun vs H Q E ⟨a, y, e, ea, _⟩ => ⟨a, [y], e, ea⟩) fun A outer s H vs Q E hr ⟨a, y, e, ea, hq⟩ => ?_
  subst e
  refine ⟨_, pss_cons (ps_ost (pe_var (i := 0) h1 (.inl (S.par _ (by simp)))) (pe_var (i := 1) h2 (.inl (S.par _ (by simp))) hd1 hd2) (hsw _)) pss_nil, ?_⟩
  refine ⟨y, by unfold L2.start; rfl, .ref a, by unfold L2.start; rfl, a, C, rfl, T.own, hno, .inl ⟨ea, fun dx n ne => ?_⟩⟩
  exact hq dx n ne
theorem fn_e2 (T : SupE prog K C cc cda) (S : ExcS N ["self", x1, x2] scope) (hno : PySem.W.findIn K (.ref C) f1 = some none) (hno2 : PySem.W.findIn K (.ref C) f2 = some none)
    (lk : K.lookup f = some ⟨oc, od, .func (PySem.W.fnX name qual params [.Expr (.Call (.Attribute (.Call (.Name "super" p0) [] [] p1) "__init__" p2) [.Constant (.str msg) cj cp] [] p3) p4, .Assign [.Attribute (.Name "self" q1) f1 q2] (.Name x1 q3) q4, .Assign [.Attribute (.Name "self" q5) f2 q6] (.Name x2 q7) q8] scope [("__class__", cc)] dV kV doc pm an (.ref cda) ct), osl⟩)
    (hcd : PySem.W.codeIn K (.ref cda) qual = true) (hp : (params.posonlyargs ++ params.args).head? = some ar) (h0 : N[0]? = some ar.arg) (h1 : N[0]? = some ("self" : Str)) (h2 : N[1]? = some x1) (h3 : N[2]? = some x2) (hse : SupCall p0 p1 p2 p3 cp msg cj) (hms : mg "super" = none)
    (hd1 : (x1 == ("__debug__" : Str)) = false := by decide) (hd2 : (x1 == ("__classdict__" : Str)) = false := by decide) (hd3 : (x2 == ("__debug__" : Str)) = false := by decide) (hd4 : (x2 == ("__classdict__" : Str)) = false := by decide)
    (hsw : ∀ env, swapsWith (.Name x1 q3) (some (.Attribute (.Name "self" q1) f1 q2)) q4.line env = pure false := by exact fun _ => rfl) (hsw2 : ∀ env, swapsWith (.Name x2 q7) (some (.Attribute (.Name "self" q5) f2 q6)) q8.line env = pure false := by exact fun _ => rfl) :
    FnOk prog w K mg base CX (k + 1) f (PySem.W.fnX name qual params [.Expr (.Call (.Attribute (.Call (.Name "super" p0) [] [] p1) "__init__" p2) [.Constant (.str msg) cj cp] [] p3) p4, .Assign [.Attribute (.Name "self" q1) f1 q2] (.Name x1 q3) q4, .Assign [.Attribute (.Name "self" q5) f2 q6] (.Name x2 q7) q8] scope [("__class__", cc)] dV kV doc pm an (.ref cda) ct) ["self", x1, x2] (spE2 C f1 f2) := by
  have e1 : ar.arg = "self" := Option.some.inj (h0.symm.trans h1)
  refine fn_exc T S lk hcd hp h0 (by rw [e1]; simp) hse hms (fun vs H Q E ⟨a, y, z, e, _⟩ => by rw [e]; rfl) (fun vs H Q E ⟨a, y, z, e, ea, _⟩ => ⟨a, [y, z], e, ea⟩) fun A outer s H vs Q E hr ⟨a, y, z, e, ea, hq⟩ => ?_
  subst e
  refine ⟨_, pss_cons (ps_ost (pe_var (i := 0) h1 (.inl (S.par _ (by simp)))) (pe_var (i := 1) h2 (.inl (S.par _ (by simp))) hd1 hd2) (hsw _))
    (pss_cons (ps_ost (pe_var (i := 0) h1 (.inl (S.par _ (by simp)))) (pe_var (i := 2) h3 (.inl (S.par _ (by simp))) hd3 hd4) (hsw2 _)) pss_nil), ?_⟩
  refine ⟨y, by unfold L2.start; rfl, .ref a, by unfold L2.start; rfl, a, C, rfl, T.own, hno, .inl ⟨ea, fun dx n ne => ?_⟩⟩
  refine ⟨z, by unfold L2.start; rfl, .ref a, by unfold L2.start; rfl, a, C, rfl, T.own, hno2, .inr ⟨dx, [(f1, y)], upd_same, by rw [upd_ne ne, upd_same], by simp, ?_⟩⟩
  exact hq dx n ne
end
end Fs

set_option Elab.async false
set_option linter.all false
set_option maxRecDepth 100000
set_option maxHeartbeats 4000000
/-! FsHook: the head's facts, with own exceptions whose __init__ closes over __class__. -/
namespace Fs
open PySem PySem.Spec PyProof.Rows L2 He

abbrev FnC : Type := Option (Str × Str × Arguments × FuncBody × Scope × Addr × List Str × Addr)
def fnC (K : PySem.W.Frag) (f : Addr) : FnC := match K.lookup f with
  | some ⟨_, _, .func fd, _⟩ => some (fd.name, fd.qualname, fd.params, fd.body, fd.scope, fd.globals, fd.closure.map (·.1), fd.builtins)
  | _ => none
/-- an own exception's __init__ -/
structure ExD where
  cls : Str
  qual : Str
  params : Arguments
  body : List Stmt
  scope : Scope
  fs : List Str
def ExD.val (d : ExD) : FnC := some ("__init__", d.qual, d.params, .stmts d.body, d.scope, mainGlobals, ["__class__"], builtinsNs)
def ccOf (K : PySem.W.Frag) (f : Addr) : Addr := match K.lookup f with
  | some ⟨_, _, .func fd, _⟩ => (match fd.closure with
    | [(_, c)] => c
    | _ => 0)
  | _ => 0
def cdOf (K : PySem.W.Frag) (f : Addr) : Addr := match K.lookup f with
  | some ⟨_, _, .func fd, _⟩ => (match fd.code with
    | .ref c => c
    | _ => 0)
  | _ => 0
def oexB (K : PySem.W.Frag) (C : Addr) : Bool := match K.lookup C with
  | some ⟨.type t, _, .cls cd, sl⟩ => (match cd.mro, sl.toList with
    | .ref C' :: bm, [_, _, _, _, some (.builtin n), _] => decide (t = "type") && (decide (C' = C) && (decide (n = "ValueError.__new__") && (!cd.hasDel && (cd.hasDict && PySem.HandSPX.refsVE bm))))
    | _, _ => false)
  | _ => false
theorem oexB_ok {K : PySem.W.Frag} {C : Addr} (h : oexB K C = true) : ∃ nm q N bs bm sn sub ab col dd k0 k1 k2 k3 k5, K.lookup C = some (excClassObj nm q C N bs bm true sn sub ab col dd k0 k1 k2 k3 k5 "ValueError.__new__") ∧ PySem.HandSPX.refsVE bm = true := by
  unfold oexB at h
  split at h
  · rename_i t dd cd sl ho
    split at h
    · rename_i C' bm k0 k1 k2 k3 n k5 hm hs
      simp only [Bool.and_eq_true, decide_eq_true_eq, Bool.not_eq_true'] at h
      obtain ⟨rfl, rfl, rfl, hdel, hdct, hr⟩ := h
      obtain ⟨nm, bs, mro, ns, qn, hd, sn, sub, ab, col, de⟩ := cd
      dsimp only at hm hdel hdct
      subst hm hdel hdct
      have hsl : sl = #[k0, k1, k2, k3, some (.builtin "ValueError.__new__"), k5] := by
        obtain ⟨l⟩ := sl
        simp only at hs
        rw [hs]
      subst hsl
      exact ⟨nm, qn, ns, bs, bm, sn, sub, ab, col, dd, k0, k1, k2, k3, k5, ho, hr⟩
    · cases h
  · cases h
def cellB (K : PySem.W.Frag) (c C : Addr) : Bool := match K.lookup c with
  | some ⟨_, _, .cell (some (.ref b)), _⟩ => decide (b = C)
  | _ => false
theorem cellB_ok {K : PySem.W.Frag} {c C : Addr} (h : cellB K c C = true) : ∃ oc, K.lookup c = some oc ∧ oc.data = .cell (some (.ref C)) := by
  unfold cellB at h
  split at h
  · rename_i a b e f ho
    have e2 := of_decide_eq_true h
    subst e2
    exact ⟨_, ho, rfl⟩
  · cases h
def fileB (file : Str) (K : PySem.W.Frag) (c : Addr) : Bool := match K.lookup c with
  | some ⟨_, _, .fields vs, _⟩ => (match (vs[2]? : Option Value) with
    | some (Value.str x _) => file == x
    | _ => false)
  | _ => false
theorem fileB_ok {file : Str} {K : PySem.W.Frag} {c : Addr} (h : fileB file K c = true) : ∃ oc vs f tf, K.lookup c = some oc ∧ oc.data = .fields vs ∧ vs[2]? = some (.str f tf) ∧ (file == f) = true := by
  unfold fileB at h
  split at h
  · rename_i a b vs e ho
    split at h
    · rename_i x t hv
      exact ⟨_, vs, x, t, ho, rfl, hv, h⟩
    · cases h
  · cases h
def cdB (K : PySem.W.Frag) (f : Addr) : Bool := match K.lookup f with
  | some ⟨_, _, .func fd, _⟩ => (match fd.code, fd.defaults with
    | .ref _, .none => true
    | _, _ => false)
  | _ => false
theorem cdB_ok {K : PySem.W.Frag} {f : Addr} {oc : Value} {od : Option Addr} {fd : FuncData} {osl : Array (Option Value)} (q : K.lookup f = some ⟨oc, od, .func fd, osl⟩) (h : cdB K f = true) : fd.code = .ref (cdOf K f) ∧ fd.defaults = .none := by
  unfold cdB at h
  unfold cdOf
  rw [q] at h ⊢
  dsimp only at h ⊢
  split at h
  · rename_i c e1 e2
    rw [e1, e2]
    exact ⟨rfl, rfl⟩
  · cases h
def eqB (a b : Option Bool) : Bool := decide (a = b)
/-- what is looked at of an own exception class -/
def ExD.ok (file : Str) (K : PySem.W.Frag) (d : ExD) : Bool :=
  let C := ga K d.cls
  let f := ma K C "__init__"
  eqO (PySem.W.nsIn K mainGlobals d.cls) (some (some (.ref C))) && (oexB K C && (eqO (PySem.W.findIn K (.ref C) "__setattr__") (some (some (.builtin "object.__setattr__"))) && (eqB (PySem.W.subIn K (.ref C) (.type "BaseException")) (some true) &&
  (decide (PySem.W.typeIn K (.ref C) = some (.type "type")) && (PySem.W.keepIn K (.ref C) && (eqB (PySem.W.mroIn K C (.ref C)) (some true) && (eqO (PySem.W.ks_superIn K C C "__init__") (some (some (.builtin "ValueError.__init__"))) &&
  (eqB (PySem.W.subIn K (.ref C) (.type "ValueError")) (some true) && (eqO (PySem.W.nsIn K cStatics "thirdparty.any") (some none) && (cellB K (ccOf K f) C && (fileB file K (cdOf K f) && (PySem.W.codeIn K (.ref (cdOf K f)) d.qual &&
  (eqO (PySem.W.findIn K (.ref C) "__init__") (some (some (.ref f))) && (decide (PySem.W.typeIn K (.ref f) = some (.type "function")) && (d.fs.all (fun n => eqO (PySem.W.findIn K (.ref C) n) (some none)) && (xfB K C && cdB K f))))))))))))))))
/-- what is known of an own exception class -/
structure ExcF (prog : Program) (K : PySem.W.Frag) (d : ExD) : Prop where
  glo : PySem.W.nsIn K mainGlobals d.cls = some (some (.ref (ga K d.cls)))
  sup : SupE prog K (ga K d.cls) (ccOf K (ma K (ga K d.cls) "__init__")) (cdOf K (ma K (ga K d.cls) "__init__"))
  code : PySem.W.codeIn K (.ref (cdOf K (ma K (ga K d.cls) "__init__"))) d.qual = true
  init : PySem.W.findIn K (.ref (ga K d.cls)) "__init__" = some (some (.ref (ma K (ga K d.cls) "__init__")))
  ty : PySem.W.typeIn K (.ref (ma K (ga K d.cls) "__init__")) = some (.type "function")
  noat : ∀ n ∈ d.fs, PySem.W.findIn K (.ref (ga K d.cls)) n = some none
  xf : XfC K (ga K d.cls)
  lk : ∃ oc od osl kV doc pm an ct, K.lookup (ma K (ga K d.cls) "__init__") = some ⟨oc, od, .func (PySem.W.fnX "__init__" d.qual d.params d.body d.scope [("__class__", ccOf K (ma K (ga K d.cls) "__init__"))] .none kV doc pm an (.ref (cdOf K (ma K (ga K d.cls) "__init__"))) ct), osl⟩
theorem ba2 {a b : Bool} (h : (a && b) = true) : a = true ∧ b = true := Bool.and_eq_true_iff.mp h
theorem ExD.facts {prog : Program} {K : PySem.W.Frag} {d : ExD} (hv : fnC K (ma K (ga K d.cls) "__init__") = d.val) (h : d.ok prog.main.file K = true) (ht : (prog.main.scope.names.lookup ("super" : Str)).isSome = false) : ExcF prog K d := by
  unfold ExD.ok at h
  obtain ⟨h0, h⟩ := ba2 h
  obtain ⟨h1, h⟩ := ba2 h
  obtain ⟨h2, h⟩ := ba2 h
  obtain ⟨h3, h⟩ := ba2 h
  obtain ⟨h4, h⟩ := ba2 h
  obtain ⟨h5, h⟩ := ba2 h
  obtain ⟨h6, h⟩ := ba2 h
  obtain ⟨h7, h⟩ := ba2 h
  obtain ⟨h8, h⟩ := ba2 h
  obtain ⟨h9, h⟩ := ba2 h
  obtain ⟨h10, h⟩ := ba2 h
  obtain ⟨h11, h⟩ := ba2 h
  obtain ⟨h12, h⟩ := ba2 h
  obtain ⟨h13, h⟩ := ba2 h
  obtain ⟨h14, h⟩ := ba2 h
  obtain ⟨h15, h⟩ := ba2 h
  obtain ⟨h16, h17⟩ := ba2 h
  refine ⟨eqO_ok h0, ⟨⟨oexB_ok h1, eqO_ok h2, of_decide_eq_true h3, of_decide_eq_true h4, h5⟩, of_decide_eq_true h6, eqO_ok h7, of_decide_eq_true h8, eqO_ok h9, cellB_ok h10, fileB_ok h11, ht⟩, h12, eqO_ok h13, of_decide_eq_true h14,
    fun n hn => eqO_ok (List.all_eq_true.mp h15 n hn), xfB_ok h16, ?_⟩
  unfold fnC at hv
  generalize hf : ma K (ga K d.cls) "__init__" = f at *
  cases q : K.lookup f with
  | none => rw [q] at hv; cases hv
  | some o =>
    obtain ⟨oc, od, dt, osl⟩ := o
    rw [q] at hv
    cases dt with
    | func fd =>
      have q0 := q
      obtain ⟨n1, n2, n3, n4, n5, n6, n7, n8, n9, n10, n11, n12, n13, n14, n15⟩ := fd
      have e2 : (some (n1, n2, n3, n4, n5, n6, n7.map (·.1), n15) : FnC) = d.val := hv
      unfold ExD.val at e2
      simp only [Option.some.injEq, Prod.mk.injEq] at e2
      obtain ⟨e1, e2, e3, e4, e5, e6, e7, e8⟩ := e2
      subst e1 e2 e3 e4 e5 e6 e8
      have hc : ∃ c : Addr, n7 = [(("__class__" : Str), c)] := by
        match n7, e7 with
        | [(a, c)], e =>
          simp only [List.map_cons, List.map_nil, List.cons.injEq, and_true] at e
          exact ⟨c, by rw [e]⟩
      obtain ⟨c, rfl⟩ := hc
      have ec : ccOf K f = c := by unfold ccOf; rw [q]
      obtain ⟨ed, e8'⟩ : n13 = .ref (cdOf K f) ∧ n8 = .none := cdB_ok q h17
      subst e8'
      rw [ec]
      exact ⟨oc, od, osl, n9, n10, n11, n12, n14, by rw [← ed]⟩
    | _ => cases hv

/-! ### the Hook -/
def rootsF (n : Nat) (g : Addr → Option Obj) : List Addr := cStatics :: asD g n
structure SaysF (fa : List Fa) (fn : List DefD) (ts : List Tab) (es : List ExD) (tf : List Defn) (ex : PySem.W.Frag → Bool) (file : Str) (w : World) (h : Heap) (K : PySem.W.Frag) : Prop where
  t : SaysT fa fn ts w K
  exc : es.map (fun e => fnC K (ma K (ga K e.cls) "__init__")) = es.map ExD.val
  exb : es.all (fun e => e.ok file K) = true
  more : ex K = true
  hd : ∀ p ∈ tf, PySem.W.codeHdIn K (cT K p).1 (cT K p).2 = true
  out : ∀ p ∈ tf, K.lookup (cT K p).2 = none
  empty : ∀ p ∈ tf, h.get? (cT K p).2 = some { cls := .none, data := .fields #[] }
abbrev AlF : Type := AlT × List FnC × Bool
def obsK (fa : List Fa) (fn : List DefD) (ts : List Tab) (es : List ExD) (tf : List Defn) (ex : PySem.W.Frag → Bool) (file : Str) (g : Addr → Option Obj) (K : PySem.W.Frag) : AlF :=
  (obsT fa fn ts K, es.map (fun e => fnC K (ma K (ga K e.cls) "__init__")), es.all (fun e => e.ok file K) && (ex K && tabsB g tf K))
def obsF (n : Nat) (fa : List Fa) (fn : List DefD) (ts : List Tab) (es : List ExD) (tf : List Defn) (ex : PySem.W.Frag → Bool) (file : Str) (g : Addr → Option Obj) : AlF := obsK fa fn ts es tf ex file g (frT g (rootsF n g))
def valF (fn : List DefD) (ts : List Tab) (es : List ExD) (w : World) : AlF := (valT fn ts w, es.map ExD.val, true)
section
variable {fa : List Fa} {fn : List DefD} {ts : List Tab} {es : List ExD} {tf : List Defn} {ex : PySem.W.Frag → Bool} {file : Str}
theorem saysF_of {n : Nat} {w : World} {h : Heap} (e : obsF n fa fn ts es tf ex file h.get? = valF fn ts es w) : SaysF fa fn ts es tf ex file w h (frT h.get? (rootsF n h.get?)) := by
  have e1 : obsT fa fn ts (frT h.get? (rootsF n h.get?)) = valT fn ts w := congrArg (fun z : AlF => z.1) e
  have e2 : es.map (fun e => fnC (frT h.get? (rootsF n h.get?)) (ma (frT h.get? (rootsF n h.get?)) (ga (frT h.get? (rootsF n h.get?)) e.cls) "__init__")) = es.map ExD.val := congrArg (fun z : AlF => z.2.1) e
  have e3 : (es.all (fun e => e.ok file (frT h.get? (rootsF n h.get?))) && (ex (frT h.get? (rootsF n h.get?)) && tabsB h.get? tf (frT h.get? (rootsF n h.get?)))) = true := congrArg (fun z : AlF => z.2.2) e
  obtain ⟨h0, h12⟩ := ba e3
  obtain ⟨h1, h2⟩ := ba h12
  have key : ∀ p ∈ tf, PySem.W.codeHdIn (frT h.get? (rootsF n h.get?)) (cT (frT h.get? (rootsF n h.get?)) p).1 (cT (frT h.get? (rootsF n h.get?)) p).2 = true ∧ ∃ o, h.get? (cT (frT h.get? (rootsF n h.get?)) p).2 = some o ∧ emptyTab o = true := fun p hp => by
    obtain ⟨h3, h4⟩ := ba (List.all_eq_true.mp h2 p hp)
    refine ⟨h3, ?_⟩
    cases q : h.get? (cT (frT h.get? (rootsF n h.get?)) p).2 with
    | none =>
      rw [q] at h4
      cases h4
    | some o =>
      rw [q] at h4
      exact ⟨o, rfl, h4⟩
  exact ⟨e1, e2, h0, h1, fun p hp => (key p hp).1, fun p hp => by
    obtain ⟨_, o, q, z⟩ := key p hp
    exact frT_none q z, fun p hp => by
    obtain ⟨_, o, q, z⟩ := key p hp
    rw [q, emptyTab_eq z]⟩
theorem SaysF.defs {w : World} {h : Heap} {K : PySem.W.Frag} (c : SaysF fa fn ts es tf ex file w h K) {d : DefD} (hd : d ∈ fn) : ∃ fd, FunD K d.name d.qual d.params d.body d.scope (d.dvs K) (d.kws K) (fAd K d.at_) fd := c.t.d.defs hd
theorem SaysF.fact {w : World} {h : Heap} {K : PySem.W.Frag} (c : SaysF fa fn ts es tf ex file w h K) {f : Fa} (hf : f ∈ fa) : f.ok K = true := c.t.d.facts hf
theorem SaysF.excs {w : World} {h : Heap} {K : PySem.W.Frag} {prog : Program} (c : SaysF fa fn ts es tf ex prog.main.file w h K) (ht : (prog.main.scope.names.lookup ("super" : Str)).isSome = false) {d : ExD} (hd : d ∈ es) : ExcF prog K d := by
  refine ExD.facts ?_ (List.all_eq_true.mp c.exb d hd) ht
  obtain ⟨i, hi, e⟩ := List.mem_iff_getElem.mp hd
  have q := congrArg (fun l => l[i]?) c.exc
  simp only [List.getElem?_map, List.getElem?_eq_getElem hi, e, Option.map_some] at q
  exact Option.some.inj q
end
def hookF (n : Nat) (fa : List Fa) (fn : List DefD) (ts : List Tab) (es : List ExD) (tf : List Defn) (ex : PySem.W.Frag → Bool) (file : Str) : PySem.W.Hook where
  α := AlF
  obs := fun s => obsF n fa fn ts es tf ex file s.heap.get?
  val := fun w => valF fn ts es w
  says := fun w h => ∃ K : PySem.W.Frag, K.In h ∧ SaysF fa fn ts es tf ex file w h K
  of := fun _ _ e => ⟨_, frT_in, saysF_of e⟩
  keeps := fun _ _ _ ⟨K, hK, c⟩ k => ⟨K, PySem.W.Frag.In.keeps hK k, ⟨c.t, c.exc, c.exb, c.more, c.hd, c.out, fun p hp => k _ _ (c.empty p hp)⟩⟩
theorem obsF_eq {n : Nat} {fa : List Fa} {fn : List DefD} {ts : List Tab} {es : List ExD} {tf : List Defn} {ex : PySem.W.Frag → Bool} {file : Str} {g : Addr → Option Obj} {s : Shared} (h : ∀ a, g a = s.heap.get? a) : obsF n fa fn ts es tf ex file g = (hookF n fa fn ts es tf ex file).obs s := by
  have e : g = s.heap.get? := funext h
  rw [e] <;> rfl
end Fs

set_option Elab.async false
set_option linter.all false
set_option maxRecDepth 100000
set_option maxHeartbeats 4000000
/-! FsTry: an exception that is caught and kept: the object, its class, its fields stand behind the suite. -/
namespace Fs
open PySem PySem.Spec PyProof.Rows L2

/-- at a: an exception of the class cls, its dict at d, as it was caught -/
def exq (a : Addr) (cls : Value) (d : Option Addr) : HO := .ext fun h => ∃ (o : Obj) (vs : Array Value), h.get? a = some o ∧ Zc cls d o ∧ o.data = .fields vs
theorem exq_ok {P : Program} {w : World} {H : Hp} {h : Heap} {a : Addr} {cls : Value} {d : Option Addr} {o : Obj} {vs : Array Value} (h1 : h.get? a = some o) (h2 : Zc cls d o) (h3 : o.data = .fields vs) : ObjOk P w H h a (exq a cls d) :=
  ⟨⟨o, vs, h1, h2, h3⟩, ⟨o, h1⟩, fun _ _ ⟨o', vs', e1, e2, e3⟩ st => ⟨o', vs', st _ e1, e2, e3⟩⟩
theorem exq_at {P : Program} {w : World} {H : Hp} {h : Heap} {a : Addr} {cls : Value} {d : Option Addr} (hok : HOk P w H h) (e : H a = some (exq a cls d)) : ∃ (o : Obj) (vs : Array Value), h.get? a = some o ∧ Zc cls d o ∧ o.data = .fields vs := (hok a _ e).1

section
variable {X : Cx} {pins : List (Addr × Obj)} {σ : L2.St} {H : Hp} {s : Shared}
/-- a pinned object, new since the entry, is told from now on -/
theorem track {a : Addr} {o : Obj} {u : HO} (I : Inv X ((a, o) :: pins) σ H s) (hn : X.s_0.heap.get? a = none) (hp : ∀ p ∈ X.pn ++ pins, p.1 ≠ a) (new : ObjOk X.prog X.w (upd H a u) s.heap a u) : Inv X pins σ (upd H a u) s := by
  obtain ⟨e1, e2, e3, e4, e5⟩ := I.pin (a, o) (by simp)
  dsimp only at e1 e2 e3 e4 e5
  have ns : ∀ b ob, X.s_0.heap.get? b = some ob → b ≠ a := fun b ob z y => by rw [y, hn] at z; cases z
  have nh : ∀ b ob, H b = some ob → b ≠ a := fun b ob z y => by rw [y, e2] at z; cases z
  refine ⟨I.ok, I.os, I.bare, ⟨I.base.keep, I.base.slot, fun b ob z n x => ?_, I.base.there, fun b xs z => ?_, fun b ob v z => ?_, fun b ps z => ?_⟩, I.loc, I.cell, ?_, fun x c z => ?_, fun p hq => ?_, fun b ob z => ?_, I.len⟩
  · rw [upd_ne (ns b ob z)]; exact I.base.free b ob z n x
  · have q := I.base.tups b xs z
    rw [upd_ne (nh _ _ q)]; exact q
  · have q := I.base.frzs b ob v z
    rw [upd_ne (nh _ _ q)]; exact q
  · obtain ⟨more, q⟩ := I.base.tbls b ps z
    exact ⟨more, by rw [upd_ne (nh _ _ q)]; exact q⟩
  · rw [upd_ne (Ne.symm e3)]; exact I.free
  · have nc : c ≠ a := fun y => by
      obtain ⟨v, oc, q1, q2⟩ := I.cell x c z
      rw [y, e1] at q1
      cases q1
      exact e5 _ q2
    rw [upd_ne nc]; exact I.freeC x c z
  · have q := I.pin p (by
      rcases List.mem_append.mp hq with r | r
      · exact List.mem_append_left _ r
      · exact List.mem_append_right _ (List.mem_cons_of_mem _ r))
    exact ⟨q.1, by rw [upd_ne (hp p hq)]; exact q.2.1, q.2.2⟩
  · by_cases hb : b = a
    · subst hb
      rw [upd_same] at z
      cases z
      exact new
    · rw [upd_ne hb] at z
      refine (I.hok b ob z).stay (fun c v _ q => q) (fun c q => by rw [upd_ne (nh _ _ q)]; exact q) fun c xs q => by rw [upd_ne (nh _ _ q)]; exact q
theorem Inv.toPin {a : Addr} {q : Addr × Obj} {pn' : List (Addr × Obj)} (I : Inv (X.suite a (q :: (X.pn ++ pins))) pn' σ H s) (ok : X.Ok) : Inv X (q :: pins) σ H s :=
  ⟨ok, I.os, I.bare, I.base, I.loc, I.cell, I.free, I.freeC, fun p hp => I.pin p (List.mem_append_left _ (by
    rcases List.mem_append.mp hp with r | r
    · exact List.mem_cons_of_mem _ (List.mem_append_left _ r)
    · rcases List.mem_cons.mp r with r | r
      · rw [r]; exact List.mem_cons_self
      · exact List.mem_cons_of_mem _ (List.mem_append_right _ r))), I.hok, I.len⟩
end
/-- what the clause 'except x as n' wishes; behind it the exception stands -/
def wKeep (K : PySem.W.Frag) (c : Value) (i : Nat) (ts : Addr → Value → Option Addr → TS) (Wout : WX) (D : Ends) : WX := fun cls d σ H =>
  ∃ b, PySem.W.exmOne K cls c = some b ∧ (b = true → ∀ a, H a = none → ts a cls d { nx := fun σ' H' => D.nx (σ'.set i none) (upd H' a (exq a cls d)), rt := fun v H' => D.rt v (upd H' a (exq a cls d)), bk := fun σ' H' => D.bk (σ'.set i none) (upd H' a (exq a cls d)), ct := fun σ' H' => D.ct (σ'.set i none) (upd H' a (exq a cls d)) } (σ.set i (some (.ref a))) H) ∧
    (b = false → Wout cls d σ H)
section
variable {X : Cx} {x n : Str} {c : Value} {i : Nat} {body suite : List Stmt} {b₀ : Stmt} {np pos pos' : Pos} {tb : WX → TS} {ts : Addr → Value → Option Addr → TS} {Wout : WX}
theorem ps_try_keep (hex : X.ex = []) (hs : X.stack = X.env :: X.outer) (hf : X.env.frame = some X.env.locals) (hN : X.N.Nodup) (hi : X.N[i]? = some n) (hln : X.env.kindOf n = some .local) (hc : Names X x c) (tk : Takes X Wout)
    (hb : ∀ (W : WX) (pn : List (Addr × Obj)) (xe : Value → Shared → Prop), Takes (X.tr pn xe) W → PassesOwn (model X.prog X.w) X.A X.env xe → PSs (X.tr pn xe) body (tb W))
    (hsu : ∀ (a : Addr) (oe : Obj) (cls : Value) (d : Option Addr) (pn : List (Addr × Obj)), Zc cls d oe → (∃ vs, oe.data = .fields vs) → PSs (X.suite a ((a, oe) :: pn)) (b₀ :: suite) (ts a cls d)) :
    PS X (.Try body [.ExceptHandler (some (.Name x np)) (some n) (b₀ :: suite) pos'] [] [] pos) (fun D σ H => tb (wKeep X.K c i ts Wout D) D σ H) := by
  refine ⟨fun pins s σ H D I h => ?_⟩
  have ok := I.ok
  have hfr : X.A.frames = some (X.env :: X.outer) := by rw [ok.frames, hs]
  have hloc : Loc X.env.scope n := .inl hln
  refine wpAny_Try_except ?_
  refine wpAny_mono ((hb (wKeep X.K c i ts Wout D) (X.pn ++ pins) (fun e s₁ => wpAny (model X.prog X.w) X.A (noteFrame e X.env) (fun _ s₂ => wpAny (model X.prog X.w) X.A (setFlight e none) (fun _ s₃ =>
    wpAny (model X.prog X.w) X.A (handleBy e X.env [.ExceptHandler (some (.Name x np)) (some n) (b₀ :: suite) pos']) (SP X pins D) X.xe s₃) X.xe s₂) X.xe s₁) (fun u s' xx => ?_) PassesOwn.looking).run [] s σ H D (I.toTry _) h) (fun f s1 hsp => ?_) (fun e s1 he => he)
  · -- the catch
    obtain ⟨a, B, sI, pins', σ', H', cls, d, rfl, J', nb, up, sky, na, os, ag, b, hb1, hyes, hno⟩ := xx
    have J : Inv X pins σ' H' sI := J'.ofTry ok
    have sky' : Sky B (X.env :: X.outer) a (Zc cls d) X.env.locals s'.heap := by rw [← hs]; exact sky
    show wpAny (model X.prog X.w) X.A (noteFrame (.ref a) X.env) _ _ _
    refine Sky.land Zc.steady hfr hf sky' fun h3 fl3 up3 => ?_
    have J3 : Inv X pins σ' H' { s' with heap := h3 } := J.landed nb fl3.1 (up.trans up3) os ag
    obtain ⟨oe3, vs3, he3, hz3, hd3⟩ := fl3.there
    have notFr : ∀ {h : Heap} {o : Obj} {vs : Array Value}, h.FunFrames B (X.env :: X.outer) → h.get? a = some o → o.data = .fields vs → a ∉ frs (X.env :: X.outer) := fun {h o vs} ff e dd hm => by
      obtain ⟨_, o', e', hnf⟩ := ff.mem hm
      rw [e] at e'; cases e'
      exact hnf _ dd
    have nfr := notFr fl3.2.2.1 he3 hd3
    have nL : a ≠ X.env.locals := fun z => nfr (List.mem_filterMap.mpr ⟨X.env, List.mem_cons_self, by rw [hf, z]⟩)
    have nF : a ∉ X.fs := fun hm => by
      obtain ⟨e, he, q⟩ := List.mem_filterMap.mp hm
      exact nfr (List.mem_filterMap.mpr ⟨e, List.mem_cons_of_mem _ he, q⟩)
    have na0 : sI.heap.get? a = none := by
      cases z : sI.heap.get? a with
      | none => rfl
      | some oz =>
        have y := nb a oz z (by rw [hs]; exact nfr)
        have y2 := fl3.2.1
        rw [y] at y2; cases y2
    have na1 : X.s_0.heap.get? a = none := by
      cases z : X.s_0.heap.get? a with
      | none => rfl
      | some oz =>
        obtain ⟨o', e'⟩ := J.base.there a oz z (by rw [hex]; simp)
        rw [na0] at e'; cases e'
    have npn : ∀ p ∈ X.pn ++ pins, p.1 ≠ a := fun p hp z => by
      have q := (J.pin p hp).1
      rw [z, na0] at q; cases q
    have S3 := J3.suite he3 hd3 na nL nF
    refine wpAny_handleBy_cons (codeAny_handlers_test ?_) (by intro q; cases q)
    have LT : PySem.W.Looks (model X.prog X.w) h3 (typeOf (.ref a)) cls := fun A Q E s k q => wpAny_typeOf_ref (k _ _ he3) (by rw [hz3.1]; exact q)
    have LM := PySem.W.exm_one (M := model X.prog X.w) (J3.kIn) LT hb1
    have test : ∀ {Q : Value → Shared → Prop} {E : Value → Shared → Prop}, Q c { s' with heap := h3 } → wpAny (model X.prog X.w) (X.A.mark (some (.ref a))) (eval (.Name x np) X.env) Q E { s' with heap := h3 } := fun {Q E} q => by
      obtain ⟨hg, hdbg, hm | ⟨hm, hv, hnn⟩⟩ := hc
      · exact ld_glob (X := X.suite a ((a, oe3) :: (X.pn ++ pins))) S3 hg hm q hdbg
      · exact ld_blt (X := X.suite a ((a, oe3) :: (X.pn ++ pins))) S3 hg hm hv q hnn hdbg
    refine test (LM.here ?_)
    cases b with
    | true =>
      refine codeAny_handlers_suite_as ?_
      refine HandSPX.lands_againZ fl3 fun h4 fl4 up4 => ?_
      have J4 : Inv X pins σ' H' { s' with heap := h4 } := J.landed nb fl4.1 ((up.trans up3).trans up4) os ag
      obtain ⟨oe4, vs4, he4, hz4, hd4⟩ := fl4.there
      have S4 := J4.suite he4 hd4 na nL nF
      refine store_ok (X := X.suite a ((a, oe4) :: (X.pn ++ pins))) (v := .ref a) S4 hN hi hloc rfl (fun s5 S5 => ?_) (.inr hln)
      refine wpAny_mono ((hsu a oe4 cls d (X.pn ++ pins) hz4 ⟨_, hd4⟩).run [] s5 _ H' _ S5 (hyes rfl a na)) (fun f s6 hsp => ?_) (fun _ _ z => False.elim z)
      have end_ : ∀ {σ6 : L2.St} {H6 : Hp} {Q : Shared → Prop}, Inv (X.suite a ((a, oe4) :: (X.pn ++ pins))) [] σ6 H6 s6 → (∀ s7, Inv X pins (σ6.set i none) (upd H6 a (exq a cls d)) s7 → Q s7) →
          wpAny (model X.prog X.w) X.A (do bindName X.env n .none; unbindBehindTheSuite X.env n pos') (fun _ s7 => Q s7) X.xe s6 := fun {σ6 H6 Q} S6 hq => by
        refine gone_ok (Fs.Inv.toPin S6 ok) hN hi hln fun s7 J7 => hq s7 (track J7 na1 npn ?_)
        exact exq_ok (J7.pin (a, oe4) (by simp)).1 hz4 hd4
      cases f with
      | next =>
        obtain ⟨σ6, H6, S6, q6⟩ := hsp
        exact end_ S6 fun s7 J7 => ⟨_, _, J7, q6⟩
      | brk =>
        obtain ⟨σ6, H6, S6, q6⟩ := hsp
        exact end_ S6 fun s7 J7 => ⟨_, _, J7, q6⟩
      | cont =>
        obtain ⟨σ6, H6, S6, q6⟩ := hsp
        exact end_ S6 fun s7 J7 => ⟨_, _, J7, q6⟩
      | ret u =>
        obtain ⟨v6, σ6, H6, S6, r6, q6⟩ := hsp
        exact end_ S6 fun s7 J7 => ⟨_, _, _, J7, r6, q6⟩
    | false =>
      show wpAny _ X.A (handleBy (.ref a) X.env []) _ _ _
      refine wpAny_handleBy_nil ?_
      obtain ⟨k1, k2, k3, oe, vs, T, oT, ts', he, hz, hd, h1, hr⟩ := id fl3
      unfold PySem.passOn
      refine wpAny_bind (wpAny_field he hd h1 ?_)
      rw [if_neg (show ¬ ((Value.ref T == Value.none) = true) from by simp)]
      have fin : wpAny (model X.prog X.w) X.A (setFlight (.ref a) X.env.frame) (fun _ s4 => wpAny (model X.prog X.w) X.A (throw (.ref a) : Sem Flow) (SP X pins D) X.xe s4) X.xe { s' with heap := h3 } := by
        rw [hf]
        refine HandSPX.setFlight_upZ fl3 fun h4 hh4 up4 => wpAny_throw (tk _ _ ?_)
        exact ⟨a, B, sI, pins, σ', H', cls, d, rfl, J, nb, (up.trans up3).trans up4, .inr (.inr (by rw [hs]; exact hh4)), na, os, ag, hno rfl⟩
      first
        | exact wpAny_bind (wpAny_pure (wpAny_bind fin))
        | exact wpAny_bind fin
  · cases f with
    | next =>
      obtain ⟨σ', H', J', q⟩ := hsp
      exact wpAny_execs_nil ⟨σ', H', J'.ofTry ok, q⟩
    | brk =>
      obtain ⟨σ', H', J', q⟩ := hsp
      exact ⟨σ', H', J'.ofTry ok, q⟩
    | cont =>
      obtain ⟨σ', H', J', q⟩ := hsp
      exact ⟨σ', H', J'.ofTry ok, q⟩
    | ret u =>
      obtain ⟨v, σ', H', J', r, q⟩ := hsp
      exact ⟨v, σ', H', J'.ofTry ok, r, q⟩
end

/-! ### what is asked of it -/
/-- isinstance(x, c), x a caught exception or any other value -/
def TyQ (K : PySem.W.Frag) (H : Hp) (x : V) (t : Value) : Prop := TyX K H x t ∨ ∃ (a D dd : Addr) (fs : List (Str × V)), x = .ref a ∧ t = .ref D ∧ H a = some (exq a (.ref D) (some dd)) ∧ H dd = some (.xd fs) ∧ ExcC K D
def rIsQ (K : PySem.W.Frag) : List V → Hp → VK → Prop := fun xs H Q => ∃ (x c : V) (t u : Value) (b : Bool), xs = [x, c] ∧ ClsV c u ∧ TyQ K H x t ∧ PySem.W.kitOne K t u = some b ∧ Q (.bl b) H
def rIsQT (K : PySem.W.Frag) : List V → Hp → VK → Prop := fun xs H Q => ∃ (x : V) (tp : Addr) (cs : List V) (t : Value) (us : List Value) (b : Bool), xs = [x, .ref tp] ∧ H tp = some (.tup cs) ∧ Paired ClsV cs us ∧ TyQ K H x t ∧ PySem.W.kitAny K t us = some b ∧ Q (.bl b) H
section
variable {X : Cx} {pins : List (Addr × Obj)} {σ : L2.St} {H : Hp} {s : Shared}
theorem exq_inst {a D dd : Addr} {fs : List (Str × V)} (I : Inv X pins σ H s) (h1 : H a = some (exq a (.ref D) (some dd))) (h2 : H dd = some (.xd fs)) : ∃ (ox od : Obj), PySem.W.InstAt s.heap a ox D (some od) ∧ ox.dict = some dd ∧ s.heap.get? dd = some od := by
  obtain ⟨o, vs, e1, e2, e3⟩ := exq_at I.hok h1
  obtain ⟨mA, hns, hr⟩ := (show ObjOk X.prog X.w H s.heap dd (.xd fs) from I.hok dd _ h2)
  obtain ⟨od, ho, hl⟩ := lookIn_ns hns
  exact ⟨o, od, ⟨e1, e2.1, by unfold PySem.W.notCls; rw [e3] <;> rfl, by rw [e2.2]; exact ho⟩, e2.2, ho⟩
theorem kitQ {x : V} {u t : Value} (I : Inv X pins σ H s) (rx : RelV x u) (ty : TyQ X.K H x t) : ∃ P : Heap → Prop, PySem.W.KitX X.K u t P ∧ P s.heap ∧ u ≠ .builtin "__main__.__loader__#opaque" := by
  rcases ty with ty | ⟨a, D, dd, fs, rfl, rfl, h1, h2, C⟩
  · exact kit_of I rx ty
  · cases (show u = Value.ref a from rx)
    obtain ⟨ox, od, J, _, _⟩ := exq_inst I h1 h2
    have hcl : (PySem.W.clsIn X.K D).isSome = true := by
      have := C.hd
      unfold PySem.W.hasDictIn at this
      cases z : PySem.W.clsIn X.K D with
      | none => rw [z] at this; cases this
      | some c => rfl
    exact ⟨_, PySem.W.kitx_exc hcl C.hg C.hk C.hs C.ha C.hn C.ht C.hm, J, fun z => nomatch z⟩
theorem call_isQ : CallR X (.builtin "isinstance") (rIsQ X.K) := by
  intro pins s σ H xs us Q I r h
  obtain ⟨x, c, t, u, b, rfl, k, ty, e, q⟩ := h
  obtain ⟨u1, u2, rfl, r1, r2⟩ := vals2 r
  have e2 := k.eq r2
  subst e2
  obtain ⟨P, Z, p, hx⟩ := kitQ I r1 ty
  exact PySem.W.kia_one Z I.kIn p e hx fun tk => ⟨.bl b, H, I.tok tk, rfl, q⟩
theorem call_isQT : CallR X (.builtin "isinstance") (rIsQT X.K) := by
  intro pins s σ H xs us Q I r h
  obtain ⟨x, tp, cs, t, ws, b, rfl, hT, k, ty, e, q⟩ := h
  obtain ⟨u1, u2, rfl, r1, r2⟩ := vals2 r
  cases (show u2 = Value.ref tp from r2)
  obtain ⟨P, Z, p, hx⟩ := kitQ I r1 ty
  obtain ⟨_, its, rv, o, h1, h2, n, h3⟩ := (show ObjOk X.prog X.w H s.heap tp (.tup cs) from I.hok tp _ hT)
  have e3 := ClsV.all k rv
  subst e3
  obtain ⟨oc, od, dt, sl⟩ := o
  simp only at h2 h3
  subst h2 h3
  exact PySem.W.kia_tup Z I.kIn p h1 e hx fun tk => ⟨.bl b, H, I.tok tk, rfl, q⟩
/-- e.n, e a caught exception -/
def tXq (K : PySem.W.Frag) (n : Str) (te : TE) : TE := fun σ H Q => te σ H fun x H1 => ∃ (a C dd : Addr) (fs : List (Str × V)) (v : V), x = .ref a ∧ H1 a = some (exq a (.ref C) (some dd)) ∧ XfC K C ∧ PySem.W.findIn K (.ref C) n = some none ∧ H1 dd = some (.xd fs) ∧ fs.lookup n = some v ∧ Q v H1
theorem pe_xq {e : Expr} {te : TE} {pos : Pos} {n : Str} (he : PE X e te) (hb : attributeBase e n X.env (eval e X.env) = eval e X.env := by rfl) : PE X (.Attribute e n pos) (tXq X.K n te) := by
  refine ⟨fun pins s σ H Q I h => ?_⟩
  refine attr_of hb (thn (he.run pins s σ H _ I h) fun u s1 hh => ?_)
  obtain ⟨x, H1, I1, rx, a, C, dd, fs, v, ex, ha, T, hno, ed, l, q⟩ := hh
  subst ex
  obtain rfl : u = Value.ref a := rx
  obtain ⟨o, vs, e1, e2, e3⟩ := exq_at I1.hok ha
  have hx : ObjOk X.prog X.w H1 s1.heap dd (.xd fs) := I1.hok dd _ ed
  obtain ⟨mA, hns, hr⟩ := hx
  obtain ⟨od, ho, hl⟩ := lookIn_ns hns
  obtain ⟨u, hu, ru⟩ := RelO.some_of (v := v) (o := mA n) (by rw [← l]; exact hr n)
  have J : PySem.W.InstAt s1.heap a o C (some od) := ⟨e1, e2.1, by unfold PySem.W.notCls; rw [e3] <;> rfl, by rw [e2.2]; exact ho⟩
  exact HandSPX.exc_get I1.kIn J T.ga T.gg T.exC (PySem.W.findObj_own T.hdC hno rfl (by rw [hl, hu])) (handed_of ru) ⟨v, H1, I1.tok _, ru, q⟩
end
end Fs

set_option Elab.async false
set_option linter.all false
set_option maxRecDepth 100000
set_option maxHeartbeats 4000000
/-! FsLam: a lambda, its parameters with written whole-number defaults (none or one), handed to a def that calls it without arguments. -/
namespace Fs
open PySem PySem.Spec PyProof.Rows L2 LamX

abbrev lamFn (qual : Str) (params : Arguments) (body : Expr) (scope : Scope) (cl : List (Str × Addr)) (dV pm cdv ct : Value) : FuncData :=
  { name := "<lambda>", qualname := qual, params, body := .expr body, scope, globals := mainGlobals, closure := cl, defaults := dV, kwdefaults := .none, doc := .none, pyModule := pm, annotations := none, code := cdv, closureTuple := ct, builtins := builtinsNs }
abbrev lamObj (qual : Str) (params : Arguments) (body : Expr) (scope : Scope) (clos : List (Str × Addr)) (dV pm : Value) (c' : Addr) (ctv : Value) : Obj :=
  { cls := .type "function", data := .func (lamFn qual params body scope clos dV pm (.ref c') ctv) }
section
variable {M : Model} {A : Around} {E : Value → Shared → Prop} {s : Shared} {qual : Str} {params : Arguments} {body : Expr} {scope : Scope} {env : Env} {c P : Addr} {ps : Array Value} {pos : Pos} {firstLine : Nat} {mg : Str → Option Value}
  {clos : List (Str × Addr)} {dV : Value} {Q : Value → Shared → Prop}
open PySem.W
theorem lam_tail (hcl : closureFor scope env = pure clos) (hge0 : env.globals = mainGlobals) (hg : s.heap.Ns mainGlobals mg) (hcode : env.code = .ref c) (C : CodeHd s.heap c P) (hP : s.heap.get? P = some (tabObj ps)) (ht : TriplesOk ps.toList)
    (hnf : codeAmong pos ps.toList = none) (hgP : mainGlobals ≠ P) (hb : s.heap.BuiltinsAt mg P)
    (h : ∀ c' ctv h' tk, Heap.ExtBut P s.heap h' → s.heap.objs.size ≤ c' → c' < h'.objs.size → h'.CodeRec (.ref c') qual → h'.get? P = some (tabObj (ps ++ #[rawInt pos.line, rawInt pos.col, .ref c'])) →
      Q (.ref h'.objs.size) { s with heap := h'.push (lamObj qual params body scope clos dV ((mg "__name__").getD .none) c' ctv), toks := tk }) :
    wpAny M A (makeTail "<lambda>" qual params (.expr body) scope env dV .none none pos firstLine) Q E s := by
  obtain ⟨bm, ob, hbm, hne0, _, hneP, hbo, hcls, hdict, hdata⟩ := hb
  unfold makeTail
  rw [hcl, hge0]
  refine wpAny_bind (wpAny_pure ?_)
  cases clos with
  | nil =>
    simp only [List.isEmpty_nil, if_true]
    refine wpAny_bind (wpAny_pure ?_)
    refine wpAny_bind (wpAny_functionCodeX hcode (C.code hP ht) (C.tab hP) hnf fun c' h' tk hx hge hlt _ hrec htb _ => ?_)
    have hg' := hg.extBut hx hgP
    refine wpAny_bind (wpAny_builtinsFor hg' hbm hne0 (hx _ _ hneP hbo) hcls hdict hdata ?_)
    refine wpAny_bind (wpAny_nsGet hg' ?_)
    exact wpAny_bind (wpAny_pure (wpAny_newObj_type (h c' .none h' tk hx hge hlt hrec htb.2) (by size_fits)))
  | cons q r =>
    simp only [List.isEmpty_cons, Bool.false_eq_true, if_false]
    refine wpAny_bind (wpAny_newTextTuple ?_)
    refine wpAny_bind (wpAny_functionCodeX hcode ((C.keeps fun b o e => Heap.get?_push_of_some _ e).code (Heap.get?_push_of_some _ hP) ht) ((C.keeps fun b o e => Heap.get?_push_of_some _ e).tab (Heap.get?_push_of_some _ hP)) hnf fun c' h' tk hx hge hlt _ hrec htb _ => ?_)
    have hg' := (hg.push _).extBut hx hgP
    have hx' : Heap.ExtBut P s.heap h' := fun b o hb' e => hx b o hb' (Heap.get?_push_of_some _ e)
    have hge' : s.heap.objs.size ≤ c' := Nat.le_trans (by rw [Heap.size_push]; omega) hge
    refine wpAny_bind (wpAny_builtinsFor hg' hbm hne0 (hx' _ _ hneP hbo) hcls hdict hdata ?_)
    refine wpAny_bind (wpAny_nsGet hg' ?_)
    exact wpAny_bind (wpAny_pure (wpAny_newObj_type (h c' _ h' tk hx' hge' hlt hrec htb.2) (by size_fits)))
theorem lam_tailHit {cv : Value} (hcl : closureFor scope env = pure clos) (hge0 : env.globals = mainGlobals) (hg : s.heap.Ns mainGlobals mg) (hcode : env.code = .ref c) (C : CodeHd s.heap c P) (hP : s.heap.get? P = some (tabObj ps)) (ht : TriplesOk ps.toList)
    (hf : codeAmong pos ps.toList = some cv) (hb : s.heap.BuiltinsAt mg P)
    (h : ∀ (ctv : Value) (h' : Heap) (tk : Tok), (∀ b o, s.heap.get? b = some o → h'.get? b = some o) → s.heap.objs.size ≤ h'.objs.size →
      Q (.ref h'.objs.size) { s with heap := h'.push { cls := .type "function", data := .func (lamFn qual params body scope clos dV ((mg "__name__").getD .none) cv ctv) }, toks := tk }) :
    wpAny M A (makeTail "<lambda>" qual params (.expr body) scope env dV .none none pos firstLine) Q E s := by
  obtain ⟨bm, ob, hbm, hne0, _, hneP, hbo, hcls, hdict, hdata⟩ := hb
  unfold makeTail
  rw [hcl, hge0]
  refine wpAny_bind (wpAny_pure ?_)
  cases clos with
  | nil =>
    simp only [List.isEmpty_nil, if_true]
    refine wpAny_bind (wpAny_pure ?_)
    refine wpAny_bind (wpAny_functionCode_hit hcode (C.code hP ht) hf ?_)
    refine wpAny_bind (wpAny_builtinsFor hg hbm hne0 hbo hcls hdict hdata ?_)
    refine wpAny_bind (wpAny_nsGet hg ?_)
    exact wpAny_bind (wpAny_pure (wpAny_newObj_type (h .none s.heap s.toks (fun _ _ e => e) (Nat.le_refl _)) (by size_fits)))
  | cons q r =>
    simp only [List.isEmpty_cons, Bool.false_eq_true, if_false]
    refine wpAny_bind (wpAny_newTextTuple ?_)
    refine wpAny_bind (wpAny_functionCode_hit hcode ((C.keeps fun b o e => Heap.get?_push_of_some _ e).code (Heap.get?_push_of_some _ hP) ht) hf ?_)
    refine wpAny_bind (wpAny_builtinsFor (hg.push _) hbm hne0 (Heap.get?_push_of_some _ hbo) hcls hdict hdata ?_)
    refine wpAny_bind (wpAny_nsGet (hg.push _) ?_)
    have hsz : ∀ oT : Obj, s.heap.objs.size ≤ (s.heap.push oT).objs.size := fun oT => by rw [Heap.size_push]; omega
    exact wpAny_bind (wpAny_pure (wpAny_newObj_type (h _ _ s.toks (fun b o e => Heap.get?_push_of_some _ e) (hsz _)) (by size_fits)))
end
/-- the defaults' tuple, where there is one -/
def DefsAt (X : Cx) (H : Hp) (h : Heap) (dV : Value) (vs : List Value) : Prop := (vs = [] ∧ dV = .none) ∨ ∃ (T : Addr) (o : Obj) (n : Nat), vs ≠ [] ∧ dV = .ref T ∧ h.get? T = some o ∧ o.data = .seq vs.toArray n ∧ H T = none ∧ T ∉ frs X.stack
section
variable {X : Cx} {pins : List (Addr × Obj)} {σ : L2.St} {H : Hp} {s : Shared}
theorem nofr_new (I : Inv X pins σ H s) : ∀ f, s.heap.objs.size ≤ f → f ∉ frs X.stack := fun f hf z => by
  rcases List.mem_cons.mp (I.stkSub _ z) with e | e
  · have h1 := I.lt
    rw [← e] at h1
    exact Nat.lt_irrefl _ (Nat.lt_of_lt_of_le h1 hf)
  · exact I.nofs hf e
/-- the lambda is made of its defaults: its code object is new, or found in the table -/
theorem lam_make3 {T : List (Addr × Str)} {c P : Addr} {params : Arguments} {body : Expr} {scope : Scope} {pos : Pos} {E : Value → Shared → Prop} {Q : Value → Shared → Prop} {dV : Value} {dvs : List Value} (I : Inv X pins σ H s) (TB : TabB X.base X.mg c P) (hcode : X.env.code = .ref c)
    (hm : (P, X.env.qual ++ "<lambda>") ∈ T) (hu : ∀ p ∈ T, p.1 = P → p.2 = X.env.qual ++ "<lambda>") (hT : Tabs T H) (hD : DefsAt X H s.heap dV dvs) (hfree : ∀ y ∈ scope.names, y.2 = .free → ∃ c, X.env.cells.lookup y.1 = some c)
    (h : ∀ (f c' : Addr) (pm ctv : Value) (H1 : Hp) (s' : Shared), Inv X pins σ H1 s' → ExtN H H1 → Tabs T H1 → DefsAt X H1 s'.heap dV dvs →
      s'.heap.get? f = some (lamObj (X.env.qual ++ "<lambda>") params body scope (cloFrom X.env.cells scope.names []) dV pm c' ctv) → H1 f = none → f ∉ frs X.stack → H1 c' = some (CodeO c' (X.env.qual ++ "<lambda>")) → Q (.ref f) s') :
    wpAny (model X.prog X.w) X.A (makeTail "<lambda>" (X.env.qual ++ "<lambda>") params (.expr body) scope X.env dV .none none pos pos.line) Q E s := by
  obtain ⟨ps, hP, ht, ha⟩ := hT _ hm
  have bP : s.heap.BuiltinsAt X.mg P := TB.bm.keeps I.bk
  have hP' : s.heap.get? P = some { cls := .none, data := .fields ps } := I.hok P _ hP
  have nofr := nofr_new I
  cases hc : codeAmong pos ps.toList with
  | none =>
    refine lam_tail (mg := X.mg) (c := c) (P := P) (ps := ps) (closure_ok hfree) I.ok.glob (I.mod.glob.keeps I.bk) hcode (TB.code.keeps I.bk) hP' ht hc TB.gP bP fun c' ctv h' tk hx hge hlt hrec htb => ?_
    obtain ⟨c2, oc, vs, t, e2, hoc, hd, hv⟩ := hrec
    cases e2
    have hsz : s.heap.objs.size ≤ h'.objs.size := Nat.le_trans hge (Nat.le_of_lt hlt)
    have nC : H c' = none := I.hok.fresh hge
    have I1 := inv_table (t' := tk) (more := #[rawInt pos.line, rawInt pos.col, .ref c']) (h' := h'.push (lamObj (X.env.qual ++ "<lambda>") params body scope (cloFrom X.env.cells scope.names []) dV ((X.mg "__name__").getD .none) c' ctv)) I hP
      (fun b o hb e => Heap.get?_push_of_some _ (hx b o hb e)) (Heap.get?_push_of_some _ htb) hge ⟨oc, vs, t, Heap.get?_push_of_some _ hoc, hd, hv⟩
    have hE : ExtN H (upd (upd H P (.tbl (ps ++ #[rawInt pos.line, rawInt pos.col, .ref c']))) c' (CodeO c' (X.env.qual ++ "<lambda>"))) := fun b o e n => by
      rw [upd_ne (ne_of_none e nC), upd_ne (fun z => n ps (Option.some.inj (e.symm.trans (by rw [z]; exact hP))))]
      exact e
    have eL : (ps ++ #[rawInt pos.line, rawInt pos.col, .ref c']).toList = ps.toList ++ [rawInt pos.line, rawInt pos.col, .ref c'] := by simp
    refine h h'.objs.size c' ((X.mg "__name__").getD .none) ctv _ _ I1 hE (fun p hp => ?_) ?_ (Heap.get?_push_size _ rfl) ?_ (nofr _ hsz) upd_same
    · by_cases hb : p.1 = P
      · rw [hu p hp hb, hb]
        refine ⟨_, by rw [upd_ne (ne_of_none hP nC), upd_same], by rw [eL]; exact PySem.TriplesOk_snoc _ _ _ _ ht, fun p' cv hcv => ?_⟩
        rw [eL] at hcv
        rcases among_app _ ht hcv with z | z
        · obtain ⟨c0, e1, e2⟩ := ha p' cv z
          exact ⟨c0, e1, hE _ _ e2 codeO_ne⟩
        · exact ⟨c', z, upd_same⟩
      · obtain ⟨ps', a1, a2, a3⟩ := hT p hp
        refine ⟨ps', by rw [upd_ne (ne_of_none a1 nC), upd_ne hb]; exact a1, a2, fun p' cv hcv => ?_⟩
        obtain ⟨c0, e1, e2⟩ := a3 p' cv hcv
        exact ⟨c0, e1, hE _ _ e2 codeO_ne⟩
    · rcases hD with hD | ⟨Tp, o, n, e0, e1, e2, e3, e4, e5⟩
      · exact .inl hD
      · have nP : Tp ≠ P := fun z => by rw [z, hP] at e4; cases e4
        have nCc : Tp ≠ c' := Nat.ne_of_lt (Nat.lt_of_lt_of_le (Heap.lt_size e2) hge)
        exact .inr ⟨Tp, o, n, e0, e1, Heap.get?_push_of_some _ (hx _ _ nP e2), e3, by rw [upd_ne nCc, upd_ne nP]; exact e4, e5⟩
    · have n1 : h'.objs.size ≠ c' := Nat.ne_of_gt hlt
      have n2 : h'.objs.size ≠ P := Nat.ne_of_gt (Nat.lt_of_lt_of_le (Heap.lt_size hP') hsz)
      rw [upd_ne n1, upd_ne n2]
      exact I.hok.fresh hsz
  | some cv =>
    obtain ⟨c', e, hco⟩ := ha pos cv hc
    subst e
    refine lam_tailHit (mg := X.mg) (c := c) (P := P) (ps := ps) (closure_ok hfree) I.ok.glob (I.mod.glob.keeps I.bk) hcode (TB.code.keeps I.bk) hP' ht hc bP fun ctv h' tk hx hsz => ?_
    have I1 : Inv X pins σ H { s with heap := h'.push (lamObj (X.env.qual ++ "<lambda>") params body scope (cloFrom X.env.cells scope.names []) dV ((X.mg "__name__").getD .none) c' ctv), toks := tk } := I.kept fun b o e => Heap.get?_push_of_some _ (hx b o e)
    refine h h'.objs.size c' ((X.mg "__name__").getD .none) ctv H _ I1 (ExtN.refl H) hT ?_ (Heap.get?_push_size _ rfl) (I.hok.fresh hsz) (nofr _ hsz) hco
    rcases hD with hD | ⟨Tp, o, n, e0, e1, e2, e3, e4, e5⟩
    · exact .inl hD
    · exact .inr ⟨Tp, o, n, e0, e1, Heap.get?_push_of_some _ (hx _ _ e2), e3, e4, e5⟩
/-- which defaults the lambda has: none, or one written whole number -/
inductive Dfs : Arguments → List Int → Prop where
  | none {params : Arguments} (h : ∀ env, defaultsOf params env = ([], [])) : Dfs params []
  | one {params : Arguments} {i : Int} {j : Nat} {p : Pos} (h : ∀ env, defaultsOf params env = ([eval (.Constant (.int i) j p) env], [])) (hk : params.kwonlyargs = []) : Dfs params [i]
/-- a lambda, evaluated -/
theorem lam_eval {T : List (Addr × Str)} {c P : Addr} {params : Arguments} {body : Expr} {scope : Scope} {pos : Pos} {E : Value → Shared → Prop} {Q : Value → Shared → Prop} {is : List Int} (D : Dfs params is) (I : Inv X pins σ H s) (TB : TabB X.base X.mg c P) (hcode : X.env.code = .ref c)
    (hm : (P, X.env.qual ++ "<lambda>") ∈ T) (hu : ∀ p ∈ T, p.1 = P → p.2 = X.env.qual ++ "<lambda>") (hT : Tabs T H) (hfree : ∀ y ∈ scope.names, y.2 = .free → ∃ c, X.env.cells.lookup y.1 = some c)
    (h : ∀ (f c' : Addr) (dV pm ctv : Value) (dvs : List Value) (H1 : Hp) (s' : Shared), dvs.length = is.length → Inv X pins σ H1 s' → ExtN H H1 → Tabs T H1 → DefsAt X H1 s'.heap dV dvs →
      s'.heap.get? f = some (lamObj (X.env.qual ++ "<lambda>") params body scope (cloFrom X.env.cells scope.names []) dV pm c' ctv) → H1 f = none → f ∉ frs X.stack → H1 c' = some (CodeO c' (X.env.qual ++ "<lambda>")) → Q (.ref f) s') :
    wpAny (model X.prog X.w) X.A (eval (.Lambda params body scope pos) X.env) Q E s := by
  rw [arm_eval_Lambda]
  cases D with
  | none hd =>
    rw [hd]
    show wpAny _ _ (do let dv ← evalAll []; let kdv ← holding dv (evalAllOpt []); makeFunction "<lambda>" (X.env.qual ++ "<lambda>") params (.expr body) scope X.env dv kdv [] pos pos.line) _ _ _
    refine wpAny_bind (wpAny_pure (wpAny_bind (wpAny_holding (wpAny_pure ?_))))
    rw [makeFunction_eq]
    simp only [List.zip_nil_right, List.filterMap_nil, List.isEmpty_nil, if_true, pure_bind]
    exact lam_make3 (dvs := []) I TB hcode hm hu hT (.inl ⟨rfl, rfl⟩) hfree fun f c' pm ctv H1 s' I1 e1 e2 e3 => h f c' .none pm ctv [] H1 s' rfl I1 e1 e2 e3
  | @one i j p hd hk =>
    rw [hd]
    show wpAny _ _ (do let dv ← evalAll [eval (.Constant (.int i) j p) X.env]; let kdv ← holding dv (evalAllOpt []); makeFunction "<lambda>" (X.env.qual ++ "<lambda>") params (.expr body) scope X.env dv kdv [] pos pos.line) _ _ _
    refine wpAny_bind (wpAny_evalAll_cons (wpAny_Constant_int (wpAny_evalAll_nil (wpAny_bind (wpAny_holding (wpAny_pure ?_))))))
    rw [makeFunction_eq]
    simp only [hk, List.zip_nil_left, List.filterMap_nil, List.isEmpty_nil, List.isEmpty_cons, Bool.false_eq_true, if_true, if_false, pure_bind]
    refine wpAny_bind (wpAny_newTextTuple ?_)
    have I0 := I.tok (s.toks + 1)
    have I1 : Inv X pins σ H { s with heap := s.heap.push { cls := .type "tuple", data := .seq #[.int i s.toks] }, toks := s.toks + 1 } := I.kept (t' := s.toks + 1) fun b o e => Heap.get?_push_of_some _ e
    refine lam_make3 (dvs := [.int i s.toks]) I1 TB hcode hm hu hT (.inr ⟨s.heap.objs.size, _, 0, by simp, rfl, Heap.get?_push_size _ rfl, rfl, I.hok.fresh (Nat.le_refl _), nofr_new I _ (Nat.le_refl _)⟩) hfree fun f c' pm ctv H1 s' I1 e1 e2 e3 => h f c' _ pm ctv _ H1 s' rfl I1 e1 e2 e3
/-! ### the lambda's names -/
/-- ps: its parameters, all with defaults, none of them a name of the maker's list N; besides: captured names and globals -/
structure LamD (N ps : List Str) (sc scope : Scope) : Prop where
  kind : scope.kind = .function
  co : scope.isCoroutine = false
  gen : scope.isGenerator = false
  nocell : ∀ y ∈ scope.names, y.2 ≠ .cell
  own : ∀ y, scope.names.lookup y = some .local → y ∉ N
  par : ∀ x ∈ ps, scope.names.lookup x = some .local
  free : ∀ y ∈ scope.names, y.2 = .free → sc.names.lookup y.1 = some .cell ∨ sc.names.lookup y.1 = some .free
def lamDB (N ps : List Str) (sc scope : Scope) : Bool :=
  decide (scope.kind = .function) && !scope.isCoroutine && !scope.isGenerator && (scope.names.all fun y => !decide (y.2 = .cell) && ((!decide (y.2 = .local) || !N.contains y.1) && (!decide (y.2 = .free) || decide (sc.names.lookup y.1 = some .cell) || decide (sc.names.lookup y.1 = some .free)))) &&
  ps.all fun x => decide (scope.names.lookup x = some .local)
theorem lamD_by {N ps : List Str} {sc scope : Scope} (h : lamDB N ps sc scope = true) : LamD N ps sc scope := by
  unfold lamDB at h
  simp only [Bool.and_eq_true, Bool.or_eq_true, Bool.not_eq_true', decide_eq_true_eq, decide_eq_false_iff_not, List.all_eq_true] at h
  obtain ⟨⟨⟨⟨h1, h2⟩, h3⟩, h4⟩, h5⟩ := h
  refine ⟨h1, h2, h3, fun y hy => (h4 y hy).1, fun y hy hn => ?_, h5, fun y hy e => ?_⟩
  · rcases (h4 _ (PySem.mem_of_lookup hy)).2.1 with z | z
    · exact absurd rfl z
    · have : N.contains y = true := by simpa using hn
      rw [this] at z; cases z
  · rcases (h4 y hy).2.2 with (z | z) | z
    · exact absurd e z
    · exact .inl z
    · exact .inr z
theorem LamD.has {N ps : List Str} {X : Cx} {scope : Scope} (L : LamD N ps X.env.scope scope) (ok : X.Ok) : ∀ y ∈ scope.names, y.2 = .free → ∃ c, X.env.cells.lookup y.1 = some c := fun y hy e => by
  rcases L.free y hy e with k | k
  · exact ok.has _ (.inl k)
  · exact ok.has _ (.inr k)
end
section
variable {X : Cx} {pins : List (Addr × Obj)} {σ : L2.St} {H HZ : Hp} {s s1 : Shared}
theorem lam_start3 {A : Around} {outer : List Env} {E : XK} {ps : List Str} {scope : Scope} {f c' : Addr} {h₁ : Heap} {tk : Nat} {m1 : Str → Option Value} (I : Inv X pins σ H s) (L : LamD X.N ps X.env.scope scope) (e0 : Env0 X.prog X.w X.K X.mg X.base A outer s1 HZ) (hd : A.handled = none)
    (un : Un (frs X.stack) [] H HZ s.heap s1.heap) (hns : h₁.Ns s1.heap.objs.size m1) (kp : ∀ b o, s1.heap.get? b = some o → h₁.get? b = some o) :
    Inv (lamCx X A outer s1 HZ E scope f c') [] σ HZ { s1 with heap := h₁, toks := tk } := by
  have hfree := L.has I.ok
  have cm : ∀ {y c}, (cloFrom X.env.cells scope.names []).lookup y = some c → X.env.cells.lookup y = some c := fun {y c} e => by
    rcases cloFrom_mem (PySem.mem_of_lookup e) with hm | ⟨h1, h2⟩
    · cases hm
    · obtain ⟨c1, hc⟩ := hfree _ h1 rfl
      have hc : X.env.cells.lookup y = some c1 := hc
      have e2 : c = c1 := by
        rw [h2, hc] <;> rfl
      rw [e2]
      exact hc
  have look : ∀ {y}, scope.names.lookup y = some .free → ∃ c, (cloFrom X.env.cells scope.names []).lookup y = some c := fun {y} hl => by
    have hy : (y, NameKind.free) ∈ scope.names := PySem.mem_of_lookup hl
    exact mem_lookup (cloFrom_has (cells := X.env.cells) (acc := []) hy)
  have cellK : ∀ {c : Addr} {v : Option Value}, H c = none → s.heap.IsCell c v → h₁.IsCell c v := fun {c v} n ⟨o, ho, hd⟩ => by
    obtain ⟨sl, q⟩ := un.any ho n (by simp)
    exact ⟨_, kp _ _ q, hd⟩
  have noA : ∀ b : Addr, b ∉ (lamCx X A outer s1 HZ E scope f c').ex := fun b z => absurd (show b ∈ ([] : List Addr) from z) (by simp)
  refine ⟨⟨e0.mod, L.kind, rfl, rfl, Nat.le_refl _, fun y z c e1 e2 => I.ok.inj y z c (cm e1) (cm e2), fun y hy => ?_, fun y c z _ => ?_, fun _ => hd, Around.frames_deeper e0.frames, .inr ⟨rfl, rfl⟩, fun b z => absurd z (noA b), e0.bs, e0.bsz, fun b _ _ => noA b,
      fun b z => absurd z (noA b), e0.funs, e0.frf⟩,
    rfl, e0.bare, Un.kept kp, ⟨m1, hns, fun i y v e1 e2 e3 => ?_⟩, fun y c e => ?_, e0.hok.fresh (Nat.le_refl _), fun y c e => ?_, fun q hq => absurd (show q ∈ ([] : List (Addr × Obj)) ++ [] from hq) (by simp), e0.hok.kept kp, I.len⟩
  · have hy : scope.names.lookup y = some .cell ∨ scope.names.lookup y = some .free := hy
    rcases hy with hy | hy
    · exact absurd rfl (L.nocell _ (PySem.mem_of_lookup hy))
    · exact look hy
  · have z : false = true := z
    cases z
  · have e3 : Vis scope y := e3
    rcases e3 with k | k | k
    · exact absurd (List.mem_of_getElem? e1) (L.own _ k)
    · exact absurd rfl (L.nocell _ (PySem.mem_of_lookup k))
    · obtain ⟨m, hn, hl⟩ := I.loc
      have hvis : Vis X.env.scope y := (L.free _ (PySem.mem_of_lookup k) rfl).elim (fun k => .inr (.inl k)) (fun k => .inr (.inr k))
      obtain ⟨w', r, q⟩ := hl i y v e1 e2 hvis
      obtain ⟨c2, h2⟩ := look k
      refine ⟨w', r, .inr ⟨.inr k, c2, h2, ?_⟩⟩
      have c1 := cm h2
      rcases q with ⟨k', _⟩ | ⟨_, c3, e', z⟩
      · have k' : X.env.scope.names.lookup y = some .local := k'
        rcases L.free _ (PySem.mem_of_lookup k) rfl with k2 | k2 <;> rw [show X.env.scope.names.lookup y = _ from k2] at k' <;> cases k'
      · rw [c1] at e'
        cases e'
        exact cellK (I.freeC y _ c1) z
  · obtain ⟨w', z⟩ := I.cell y c (cm e)
    exact ⟨w', cellK (I.freeC y c (cm e)) z⟩
  · obtain ⟨v, o, ho, hd⟩ := I.cell y c (cm e)
    exact un.free c o ho (I.freeC y c (cm e)) (by simp)
/-- how such a lambda's parameters are filled -/
def LamBind (ps : List Str) (is : List Int) (params : Arguments) (body : Expr) (scope : Scope) : Prop :=
  (is = [] → ∀ (q : Str) (cl : List (Str × Addr)) (pm cv ctv : Value), bindArgs (lamFn q params body scope cl .none pm cv ctv) ⟨[], []⟩ = pure []) ∧
  (∀ i, is = [i] → ∀ (q : Str) (cl : List (Str × Addr)) (pm cv ctv v : Value) (T : Addr), ∃ k, bindArgs (lamFn q params body scope cl (.ref T) pm cv ctv) ⟨[], []⟩ = seqItems? (.ref T) >>= k ∧ k (some #[v]) = pure (ps.zip [v]))
/-- x(), in the def that got the lambda: Z is that def's context, entered at s -/
theorem pe_act3 {CXg : CXT} {Eg : XK} {Ng : List Str} {qg : Str} {sg : Scope} {g f c' : Addr} {cdg dV pm ctv : Value} {dvs : List Value} {is : List Int} {ps : List Str} {params : Arguments} {body : Expr} {scope : Scope} {k i : Nat} {a : Str} {pn : List (Addr × Obj)} {xe : Value → Shared → Prop} {W : WX} {E : XK} {tb : TE} {p1 p2 : Pos}
    (I : Inv X pins σ H s) (L : LamD X.N ps X.env.scope scope) (hf : s.heap.get? f = some (lamObj (X.env.qual ++ "<lambda>") params body scope (cloFrom X.env.cells scope.names []) dV pm c' ctv)) (hfn : H f = none) (hfr : f ∉ frs X.stack)
    (hD : DefsAt X H s.heap dV dvs) (hlen : dvs.length = is.length) (his : is.length ≤ 1) (hps : ps.length = is.length) (hbind : LamBind ps is params body scope)
    (tk : Takes ((cxOf CXg X.prog X.w X.K X.mg X.base Ng qg sg g cdg X.A X.stack s H Eg).tr pn xe) W) (hW : ∀ cls d σ' H', E cls d H' → W cls d σ' H') (hr : Room (k + 1) (X.A.deeper (envOfC qg sg s.heap.objs.size g cdg)))
    (hbody : ∀ (A : Around) (outer : List Env) (s : Shared) (H : Hp), Room k (A.deeper (lamEnv X scope s.heap.objs.size f c')) → PE (lamCx X A outer s H E scope f c') body tb)
    (hN : Ng[i]? = some a) (hv : Vis sg a) (hd : (a == ("__debug__" : Str)) = false := by decide) (hcd : (a == ("__classdict__" : Str)) = false := by decide) :
    PE ((cxOf CXg X.prog X.w X.K X.mg X.base Ng qg sg g cdg X.A X.stack s H Eg).tr pn xe) (.Call (.Name a p1) [] [] p2)
      (fun σZ HZ Q => σZ[i]? = some (some (.ref f)) ∧ HZ c' = some (CodeO c' (X.env.qual ++ "<lambda>")) ∧ tb σ HZ Q) := by
  refine ⟨fun pinsZ sZ σZ HZ Q IZ h => ?_⟩
  obtain ⟨hs, hc, ht⟩ := h
  refine wpAny_Call_Name_kw (thn ((pe_var (pos := p1) (i := i) hN hv hd hcd).run pinsZ sZ σZ HZ (fun v H1 => v = .ref f ∧ H1 = HZ) IZ ⟨.ref f, hs, rfl, rfl⟩) fun u s1 ⟨v, H1, I1, r1, q1⟩ => ?_)
  obtain ⟨ev, eH⟩ := q1
  subst ev
  rw [eH] at I1
  obtain rfl : u = Value.ref f := r1
  have of1 : s1.heap.get? f = some (lamObj (X.env.qual ++ "<lambda>") params body scope (cloFrom X.env.cells scope.names []) dV pm c' ctv) := I1.base.keep f _ hf hfn hfr (fun z => nomatch (show f ∈ ([] : List Addr) from z))
  refine PySem.W.callWith_F0 ⟨_, _, _, _, of1⟩ ?_
  have un : Un (frs X.stack) [] H HZ s.heap s1.heap := I1.base
  obtain ⟨⟨oc, vs, t, hoc, hdc, hvc⟩, _, _⟩ := I1.hok c' _ hc
  have hB : ∃ us : List Value, us.length = ps.length ∧ BindsTo s1 (lamFn (X.env.qual ++ "<lambda>") params body scope (cloFrom X.env.cells scope.names []) dV pm (.ref c') ctv) ⟨[], []⟩ (ps.zip us) := by
    rcases hD with ⟨e1, e2⟩ | ⟨T, o, n, e0, e1, e2, e3, e4, e5⟩
    · subst e1 e2
      have ei : is = [] := List.length_eq_zero_iff.mp hlen.symm
      subst ei
      have ep : ps = [] := List.length_eq_zero_iff.mp hps
      subst ep
      exact ⟨[], rfl, .of_eq (hbind.1 rfl _ _ _ _ _)⟩
    · subst e1
      have oT : s1.heap.get? T = some o := I1.base.keep T _ e2 e4 e5 (fun z => nomatch (show T ∈ ([] : List Addr) from z))
      match is, his, hps, hlen, hbind with
      | [], _, hps, hlen, hbind =>
        have ed : dvs = [] := List.length_eq_zero_iff.mp hlen
        subst ed
        have ep : ps = [] := List.length_eq_zero_iff.mp hps
        subst ep
        exact absurd rfl e0
      | [i0], _, hps, hlen, hbind =>
        obtain ⟨v0, ed⟩ : ∃ v0, dvs = [v0] := List.length_eq_one_iff.mp hlen
        subst ed
        obtain ⟨kk, b1, b2⟩ := hbind.2 i0 rfl (X.env.qual ++ "<lambda>") (cloFrom X.env.cells scope.names []) pm (.ref c') ctv v0 T
        refine ⟨[v0], hps.symm, fun M A E Q hq => ?_⟩
        rw [b1]
        refine wpAny_bind (wpAny_seqItems oT e3 ?_)
        show wpAny M A (kk (some #[v0])) Q E s1
        rw [b2]
        exact wpAny_pure hq
  obtain ⟨us, _, hB⟩ := hB
  have rc : codeAny (model X.prog X.w) (X.A.deeper (envOfC qg sg s.heap.objs.size g cdg)) (.call (.ref f) ⟨[], []⟩) (CR (L2.CX X.prog X.w) (envOfC qg sg s.heap.objs.size g cdg :: X.stack) X.prog X.w HZ s1 Q E) s1 := by
    refine PySem.W.kla_callFunE hr.depth of1 rfl L.co L.gen rfl ⟨c', oc, vs, t, rfl, hoc, hdc, hvc⟩ (hB _ _ _ _ ?_)
    refine wpAny_newFunctionEnv L.nocell (fun ⟨y1, y2⟩ hy => L.par y1 (List.of_mem_zip hy).1) (fun h₁ hns hsb => ⟨I1.nolimit.fresh _ hsb, ?_⟩) L.kind
    show codeAny _ _ (.expr body (lamEnv X scope s1.heap.objs.size f c')) _ _
    have kp : ∀ b o, s1.heap.get? b = some o → h₁.get? b = some o := fun b o e => hsb.extBut b o (Nat.ne_of_lt (Heap.lt_size e)) (Heap.get?_push_of_some _ e)
    have J : Inv (lamCx X (X.A.deeper (envOfC qg sg s.heap.objs.size g cdg)) (envOfC qg sg s.heap.objs.size g cdg :: X.stack) s1 HZ E scope f c') [] σ HZ { s1 with heap := h₁, toks := s1.toks + (ps.zip us).length } :=
      lam_start3 I L I1.env0 hr.hd un hns kp
    refine PySem.W.kla_codeExpr (wpAny_mono ((hbody _ _ s1 HZ (hr.deeper _)).run [] _ _ HZ Q J ht) (fun v s' hq => ?_) fun e s' hq => hq)
    obtain ⟨w', H', J', rv, q⟩ := hq
    exact ⟨w', H', J'.os, J'.bare, J'.base, J'.hok, rv, q⟩
  have hx : Passes (L2.CX X.prog X.w) ((cxOf CXg X.prog X.w X.K X.mg X.base Ng qg sg g cdg X.A X.stack s H Eg).tr pn xe) E := passes_call tk hW
  refine wpAny_call (codeAny_mono rc fun r s' hq => ?_)
  cases r with
  | error e => exact hx pinsZ σZ HZ s1 e s' I1 hq
  | ok fl =>
    cases fl with
    | ret u => exact I1.after hq
    | next => exact False.elim hq
    | brk => exact False.elim hq
    | cont => exact False.elim hq
end
/-- x(lambda: body), x's body run from its promise GivesTo -/
theorem pe_lamcall3 {X : Cx} {T : List (Addr × Str)} {TT : (XK → Hp → VK → Prop) → Hp → VK → Prop} {x a : Str} {g c P : Addr} {k : Nat} {pg : Arguments} {bg : List Stmt} {sg : Scope} {dV kV doc pm cdv ct oc : Value} {an od : Option Addr} {osl : Array (Option Value)} {Ng : List Str} {is : List Int} {ps : List Str}
    {params : Arguments} {body : Expr} {scope : Scope} {t : XK → TE} {p lpos pos : Pos} (hg : Gl X x) (hm : X.mg x = some (.ref g)) (hk : PySem.W.keepIn X.K (.ref g) = true)
    (lk : X.K.lookup g = some ⟨oc, od, .func (PySem.W.fnOf x x pg bg sg dV kV doc pm an cdv ct), osl⟩) (hcg : PySem.W.codeIn X.K cdv x = true) (hb : L2.Binds X.K (PySem.W.fnOf x x pg bg sg dV kV doc pm an cdv ct) [a] []) (Sg : FnScope Ng [a] sg) (hNg : Ng[0]? = some a) (hva : Vis sg a)
    (hG : GivesTo X Ng x sg g cdv bg a (X.env.qual ++ "<lambda>") TT)
    (TB : TabB X.base X.mg c P) (hcode : X.env.code = .ref c) (hmT : (P, X.env.qual ++ "<lambda>") ∈ T) (hu : ∀ p ∈ T, p.1 = P → p.2 = X.env.qual ++ "<lambda>") (hr : Room (k + 2) X.A) (L : LamD X.N ps X.env.scope scope) (D : Dfs params is) (hps : ps.length = is.length)
    (hbind : LamBind ps is params body scope)
    (hbody : ∀ (A : Around) (outer : List Env) (s : Shared) (H : Hp) (E : XK) (f c' : Addr), Room k (A.deeper (lamEnv X scope s.heap.objs.size f c')) → PE (lamCx X A outer s H E scope f c') body (t E))
    (hdb : (x == ("__debug__" : Str)) = false := by decide) (hd : (a == ("__debug__" : Str)) = false := by decide) (hcd : (a == ("__classdict__" : Str)) = false := by decide) :
    PE X (.Call (.Name x p) [.Lambda params body scope lpos] [] pos) (tLam T TT t) := by
  have his : is.length ≤ 1 := by cases D <;> simp
  refine ⟨fun pins s σ H Q I h => ?_⟩
  obtain ⟨hT, h⟩ := h
  refine wpAny_Call_Name_kw (ld_glob I hg hm ?_ hdb)
  refine PySem.W.callWith_K (h₀ := X.base) I.ok.mod.kin hk ?_ (by rfl) (by rfl)
  show wpAny _ _ (spliced ((false, eval (.Lambda params body scope lpos) X.env) :: backTo pos (starEach [] X.env))) _ _ s
  refine Calls.spliced_cons (lam_eval D I TB hcode hmT hu hT (L.has I.ok) fun f c' dV' pm' ctv dvs H1 s' hlen I1 eN T1 hD hf hfn hfr hco => ?_)
  refine Calls.spliced_nil ⟨I1.kIn, ?_⟩
  have rc : codeAny (model X.prog X.w) X.A (.call (.ref g) ⟨[.ref f], []⟩) (CR C8.CX0 X.stack X.prog X.w H1 s' Q C8.E0) s' := by
    refine run_ofS (N := Ng) (ps := [a]) (us := [.ref f]) (vs := [.ref f]) lk hcg Sg hr I1.env0 (hb s' [.ref f] I1.kIn rfl) (.cons rfl .nil) rfl fun hr' => ?_
    obtain ⟨t', ht', hq'⟩ := hG f c' s' H1 Q (fun E H' Q' => t E σ H' Q') (fun W pn xe E p1 p2 tk hW => pe_act3 (i := 0) I1 L hf hfn hfr hD hlen his hps hbind tk hW hr' (fun A outer s H hr2 => hbody A outer s H E f c' hr2) hNg hva hd hcd) hco (h H1 eN T1)
    exact ⟨t', ht'.nox, hq'⟩
  refine wpAny_call (codeAny_mono rc fun r s2 hq => ?_)
  cases r with
  | error e => exact (show False from hq).elim
  | ok fl =>
    cases fl with
    | ret u => exact I1.after hq
    | next => exact False.elim hq
    | brk => exact False.elim hq
    | cont => exact False.elim hq
end Fs

set_option Elab.async false
set_option linter.all false
set_option maxRecDepth 100000
set_option maxHeartbeats 4000000
/-! FsLam2: the same, the names told as they stand where the exception comes. -/
namespace Fs
open PySem PySem.Spec PyProof.Rows L2 LamX
/-- the def that calls what it got: a calls it; TT: what it makes of the lambda's reading -/
def GivesS (X : Cx) (Ng : List Str) (x : Str) (sg : Scope) (g : Addr) (cdg : Value) (bg : List Stmt) (a : Str) (q : Str) (TT : (XK → Hp → VK → Prop) → Hp → VK → Prop) : Prop :=
  ∀ (f c' : Addr) (s : Shared) (H : Hp) (Q : VK) (tl : XK → Hp → VK → Prop),
    (∀ (W : WX) (pn : List (Addr × Obj)) (xe : Value → Shared → Prop) (E : XK) (p1 p2 : Pos), Takes ((cxOf C8.CX0 X.prog X.w X.K X.mg X.base Ng x sg g cdg X.A X.stack s H C8.E0).tr pn xe) W →
      PE ((cxOf C8.CX0 X.prog X.w X.K X.mg X.base Ng x sg g cdg X.A X.stack s H C8.E0).tr pn xe) (.Call (.Name a p1) [] [] p2) (fun σZ HZ Q => σZ[0]? = some (some (.ref f)) ∧ HZ c' = some (CodeO c' q) ∧ (∀ cls d H', E cls d H' → W cls d σZ H') ∧ tl E HZ Q)) →
    H c' = some (CodeO c' q) → TT tl H Q →
    ∃ t, PSs (cxOf C8.CX0 X.prog X.w X.K X.mg X.base Ng x sg g cdg X.A X.stack s H C8.E0).nox bg t ∧ t { nx := fun _ H' => Q .non H', rt := Q } (L2.start Ng [.ref f]) H
section
variable {X : Cx} {pins : List (Addr × Obj)} {σ : L2.St} {H HZ : Hp} {s s1 : Shared}
theorem pe_act4 {CXg : CXT} {Eg : XK} {Ng : List Str} {qg : Str} {sg : Scope} {g f c' : Addr} {cdg dV pm ctv : Value} {dvs : List Value} {is : List Int} {ps : List Str} {params : Arguments} {body : Expr} {scope : Scope} {k i : Nat} {a : Str} {pn : List (Addr × Obj)} {xe : Value → Shared → Prop} {W : WX} {E : XK} {tb : TE} {p1 p2 : Pos}
    (I : Inv X pins σ H s) (L : LamD X.N ps X.env.scope scope) (hf : s.heap.get? f = some (lamObj (X.env.qual ++ "<lambda>") params body scope (cloFrom X.env.cells scope.names []) dV pm c' ctv)) (hfn : H f = none) (hfr : f ∉ frs X.stack)
    (hD : DefsAt X H s.heap dV dvs) (hlen : dvs.length = is.length) (his : is.length ≤ 1) (hps : ps.length = is.length) (hbind : LamBind ps is params body scope)
    (tk : Takes ((cxOf CXg X.prog X.w X.K X.mg X.base Ng qg sg g cdg X.A X.stack s H Eg).tr pn xe) W) (hr : Room (k + 1) (X.A.deeper (envOfC qg sg s.heap.objs.size g cdg)))
    (hbody : ∀ (A : Around) (outer : List Env) (s : Shared) (H : Hp), Room k (A.deeper (lamEnv X scope s.heap.objs.size f c')) → PE (lamCx X A outer s H E scope f c') body tb)
    (hN : Ng[i]? = some a) (hv : Vis sg a) (hd : (a == ("__debug__" : Str)) = false := by decide) (hcd : (a == ("__classdict__" : Str)) = false := by decide) :
    PE ((cxOf CXg X.prog X.w X.K X.mg X.base Ng qg sg g cdg X.A X.stack s H Eg).tr pn xe) (.Call (.Name a p1) [] [] p2)
      (fun σZ HZ Q => σZ[i]? = some (some (.ref f)) ∧ HZ c' = some (CodeO c' (X.env.qual ++ "<lambda>")) ∧ (∀ cls d H', E cls d H' → W cls d σZ H') ∧ tb σ HZ Q) := by
  refine ⟨fun pinsZ sZ σZ HZ Q IZ h => ?_⟩
  obtain ⟨hs, hc, hW, ht⟩ := h
  refine wpAny_Call_Name_kw (thn ((pe_var (pos := p1) (i := i) hN hv hd hcd).run pinsZ sZ σZ HZ (fun v H1 => v = .ref f ∧ H1 = HZ) IZ ⟨.ref f, hs, rfl, rfl⟩) fun u s1 ⟨v, H1, I1, r1, q1⟩ => ?_)
  obtain ⟨ev, eH⟩ := q1
  subst ev
  rw [eH] at I1
  obtain rfl : u = Value.ref f := r1
  have of1 : s1.heap.get? f = some (lamObj (X.env.qual ++ "<lambda>") params body scope (cloFrom X.env.cells scope.names []) dV pm c' ctv) := I1.base.keep f _ hf hfn hfr (fun z => nomatch (show f ∈ ([] : List Addr) from z))
  refine PySem.W.callWith_F0 ⟨_, _, _, _, of1⟩ ?_
  have un : Un (frs X.stack) [] H HZ s.heap s1.heap := I1.base
  obtain ⟨⟨oc, vs, t, hoc, hdc, hvc⟩, _, _⟩ := I1.hok c' _ hc
  have hB : ∃ us : List Value, us.length = ps.length ∧ BindsTo s1 (lamFn (X.env.qual ++ "<lambda>") params body scope (cloFrom X.env.cells scope.names []) dV pm (.ref c') ctv) ⟨[], []⟩ (ps.zip us) := by
    rcases hD with ⟨e1, e2⟩ | ⟨T, o, n, e0, e1, e2, e3, e4, e5⟩
    · subst e1 e2
      have ei : is = [] := List.length_eq_zero_iff.mp hlen.symm
      subst ei
      have ep : ps = [] := List.length_eq_zero_iff.mp hps
      subst ep
      exact ⟨[], rfl, .of_eq (hbind.1 rfl _ _ _ _ _)⟩
    · subst e1
      have oT : s1.heap.get? T = some o := I1.base.keep T _ e2 e4 e5 (fun z => nomatch (show T ∈ ([] : List Addr) from z))
      match is, his, hps, hlen, hbind with
      | [], _, hps, hlen, hbind =>
        have ed : dvs = [] := List.length_eq_zero_iff.mp hlen
        subst ed
        have ep : ps = [] := List.length_eq_zero_iff.mp hps
        subst ep
        exact absurd rfl e0
      | [i0], _, hps, hlen, hbind =>
        obtain ⟨v0, ed⟩ : ∃ v0, dvs = [v0] := List.length_eq_one_iff.mp hlen
        subst ed
        obtain ⟨kk, b1, b2⟩ := hbind.2 i0 rfl (X.env.qual ++ "<lambda>") (cloFrom X.env.cells scope.names []) pm (.ref c') ctv v0 T
        refine ⟨[v0], hps.symm, fun M A E Q hq => ?_⟩
        rw [b1]
        refine wpAny_bind (wpAny_seqItems oT e3 ?_)
        show wpAny M A (kk (some #[v0])) Q E s1
        rw [b2]
        exact wpAny_pure hq
  obtain ⟨us, _, hB⟩ := hB
  have rc : codeAny (model X.prog X.w) (X.A.deeper (envOfC qg sg s.heap.objs.size g cdg)) (.call (.ref f) ⟨[], []⟩) (CR (L2.CX X.prog X.w) (envOfC qg sg s.heap.objs.size g cdg :: X.stack) X.prog X.w HZ s1 Q E) s1 := by
    refine PySem.W.kla_callFunE hr.depth of1 rfl L.co L.gen rfl ⟨c', oc, vs, t, rfl, hoc, hdc, hvc⟩ (hB _ _ _ _ ?_)
    refine wpAny_newFunctionEnv L.nocell (fun ⟨y1, y2⟩ hy => L.par y1 (List.of_mem_zip hy).1) (fun h₁ hns hsb => ⟨I1.nolimit.fresh _ hsb, ?_⟩) L.kind
    show codeAny _ _ (.expr body (lamEnv X scope s1.heap.objs.size f c')) _ _
    have kp : ∀ b o, s1.heap.get? b = some o → h₁.get? b = some o := fun b o e => hsb.extBut b o (Nat.ne_of_lt (Heap.lt_size e)) (Heap.get?_push_of_some _ e)
    have J : Inv (lamCx X (X.A.deeper (envOfC qg sg s.heap.objs.size g cdg)) (envOfC qg sg s.heap.objs.size g cdg :: X.stack) s1 HZ E scope f c') [] σ HZ { s1 with heap := h₁, toks := s1.toks + (ps.zip us).length } :=
      lam_start3 I L I1.env0 hr.hd un hns kp
    refine PySem.W.kla_codeExpr (wpAny_mono ((hbody _ _ s1 HZ (hr.deeper _)).run [] _ _ HZ Q J ht) (fun v s' hq => ?_) fun e s' hq => hq)
    obtain ⟨w', H', J', rv, q⟩ := hq
    exact ⟨w', H', J'.os, J'.bare, J'.base, J'.hok, rv, q⟩
  refine wpAny_call (codeAny_mono rc fun r s' hq => ?_)
  cases r with
  | error e => exact tk e s' (XE.of_call I1 (fun cls d H' h => hW cls d H' h) hq)
  | ok fl =>
    cases fl with
    | ret u => exact I1.after hq
    | next => exact False.elim hq
    | brk => exact False.elim hq
    | cont => exact False.elim hq
end
theorem pe_lamcall4 {X : Cx} {T : List (Addr × Str)} {TT : (XK → Hp → VK → Prop) → Hp → VK → Prop} {x a : Str} {g c P : Addr} {k : Nat} {pg : Arguments} {bg : List Stmt} {sg : Scope} {dV kV doc pm cdv ct oc : Value} {an od : Option Addr} {osl : Array (Option Value)} {Ng : List Str} {is : List Int} {ps : List Str}
    {params : Arguments} {body : Expr} {scope : Scope} {t : XK → TE} {p lpos pos : Pos} (hg : Gl X x) (hm : X.mg x = some (.ref g)) (hk : PySem.W.keepIn X.K (.ref g) = true)
    (lk : X.K.lookup g = some ⟨oc, od, .func (PySem.W.fnOf x x pg bg sg dV kV doc pm an cdv ct), osl⟩) (hcg : PySem.W.codeIn X.K cdv x = true) (hb : L2.Binds X.K (PySem.W.fnOf x x pg bg sg dV kV doc pm an cdv ct) [a] []) (Sg : FnScope Ng [a] sg) (hNg : Ng[0]? = some a) (hva : Vis sg a)
    (hG : GivesS X Ng x sg g cdv bg a (X.env.qual ++ "<lambda>") TT)
    (TB : TabB X.base X.mg c P) (hcode : X.env.code = .ref c) (hmT : (P, X.env.qual ++ "<lambda>") ∈ T) (hu : ∀ p ∈ T, p.1 = P → p.2 = X.env.qual ++ "<lambda>") (hr : Room (k + 2) X.A) (L : LamD X.N ps X.env.scope scope) (D : Dfs params is) (hps : ps.length = is.length)
    (hbind : LamBind ps is params body scope)
    (hbody : ∀ (A : Around) (outer : List Env) (s : Shared) (H : Hp) (E : XK) (f c' : Addr), Room k (A.deeper (lamEnv X scope s.heap.objs.size f c')) → PE (lamCx X A outer s H E scope f c') body (t E))
    (hdb : (x == ("__debug__" : Str)) = false := by decide) (hd : (a == ("__debug__" : Str)) = false := by decide) (hcd : (a == ("__classdict__" : Str)) = false := by decide) :
    PE X (.Call (.Name x p) [.Lambda params body scope lpos] [] pos) (tLam T TT t) := by
  have his : is.length ≤ 1 := by cases D <;> simp
  refine ⟨fun pins s σ H Q I h => ?_⟩
  obtain ⟨hT, h⟩ := h
  refine wpAny_Call_Name_kw (ld_glob I hg hm ?_ hdb)
  refine PySem.W.callWith_K (h₀ := X.base) I.ok.mod.kin hk ?_ (by rfl) (by rfl)
  show wpAny _ _ (spliced ((false, eval (.Lambda params body scope lpos) X.env) :: backTo pos (starEach [] X.env))) _ _ s
  refine Calls.spliced_cons (lam_eval D I TB hcode hmT hu hT (L.has I.ok) fun f c' dV' pm' ctv dvs H1 s' hlen I1 eN T1 hD hf hfn hfr hco => ?_)
  refine Calls.spliced_nil ⟨I1.kIn, ?_⟩
  have rc : codeAny (model X.prog X.w) X.A (.call (.ref g) ⟨[.ref f], []⟩) (CR C8.CX0 X.stack X.prog X.w H1 s' Q C8.E0) s' := by
    refine run_ofS (N := Ng) (ps := [a]) (us := [.ref f]) (vs := [.ref f]) lk hcg Sg hr I1.env0 (hb s' [.ref f] I1.kIn rfl) (.cons rfl .nil) rfl fun hr' => ?_
    obtain ⟨t', ht', hq'⟩ := hG f c' s' H1 Q (fun E H' Q' => t E σ H' Q') (fun W pn xe E p1 p2 tk => pe_act4 (i := 0) I1 L hf hfn hfr hD hlen his hps hbind tk hr' (fun A outer s H hr2 => hbody A outer s H E f c' hr2) hNg hva hd hcd) hco (h H1 eN T1)
    exact ⟨t', ht'.nox, hq'⟩
  refine wpAny_call (codeAny_mono rc fun r s2 hq => ?_)
  cases r with
  | error e => exact (show False from hq).elim
  | ok fl =>
    cases fl with
    | ret u => exact I1.after hq
    | next => exact False.elim hq
    | brk => exact False.elim hq
    | cont => exact False.elim hq
end Fs

set_option Elab.async false
set_option linter.all false
set_option maxRecDepth 100000
set_option maxHeartbeats 4000000
/-! FsZip: zip of a tuple and a text; FORMS.get(k), k in FORMS of a written dict. -/
namespace Fs
open PySem PySem.Spec PyProof.Rows L2

/-- zip(t, x): the tuple at t of xs, the text x -/
def ItzS (K : PySem.W.Frag) (t : Addr) (xs : List V) (x : Str) : It :=
  ⟨fun i H => SqT K H t xs ∧ i < min xs.length x.cps.size,
    fun i H v H' => ∃ T y c, v = .ref T ∧ H T = none ∧ H' = upd H T (.tup [y, .str ⟨#[c]⟩]) ∧ xs[i]? = some y ∧ x.cps[i]? = some c,
    fun i H => SqT K H t xs ∧ i = min xs.length x.cps.size⟩
theorem turn_zipS {P : Program} {w : World} {K : PySem.W.Frag} {elts : List Expr} {kk : Nat} {tpos : Pos} {N t : Addr} {xs : List V} {x : Str} {tk : Tok} (ht : t < N) :
    Turn P w K (.Tuple elts kk tpos) (ItzS K t xs x) [(N + 4 : Nat), (N + 2 : Nat), (N + 3 : Nat), N, (N + 1 : Nat)] (N + 4 : Nat) (fun i h => IsZip h (N + 4 : Nat) (N + 2 : Nat) (N + 3 : Nat) .none ∧ IsTupOf2 h (N + 2 : Nat) (.ref N) (.ref (N + 1 : Nat)) ∧ (∃ a1 a2, IsTupOf2 h (N + 3 : Nat) a1 a2) ∧
      h.IsTupleIter N t i ∧ h.IsStrIter (N + 1 : Nat) (strIterType x) x tk i) where
  mem := by simp
  obj := fun i h st c hc => by
    obtain ⟨hz, hTI, ⟨a, b, hTO⟩, ⟨o1, e1, _, d1⟩, ⟨o2, e2, _, d2⟩⟩ := st
    have e' : c = (N + 4 : Nat) ∨ c = (N + 2 : Nat) ∨ c = (N + 3 : Nat) ∨ c = N ∨ c = (N + 1 : Nat) := by simpa using hc
    rcases e' with q | q | q | q | q
    · rw [q]; exact ⟨_, hz, fun v q => nomatch q⟩
    · rw [q]; exact ⟨_, hTI, fun v q => nomatch q⟩
    · rw [q]; exact ⟨_, hTO, fun v q => nomatch q⟩
    · rw [q]; exact ⟨o1, e1, fun v q => by rw [d1] at q; cases q⟩
    · rw [q]; exact ⟨o2, e2, fun v q => by rw [d2] at q; cases q⟩
  keep := fun i h h' st k => by
    obtain ⟨hz, hTI, ⟨a, b, hTO⟩, h1, h2⟩ := st
    refine ⟨k _ (by simp) _ hz, k _ (by simp) _ hTI, ⟨a, b, k _ (by simp) _ hTO⟩, h1.at fun o q => k _ (by simp) o q, ?_⟩
    obtain ⟨o, ho, r⟩ := h2
    exact ⟨o, k _ (by simp) o ho, r⟩
  item := by
    intro X hP hw hK hc i pins s σ H E I hf st hg
    subst hP hw hK
    obtain ⟨hz, hTI, hTO, h1, h2⟩ := st
    obtain ⟨hq, hi⟩ := hg
    obtain ⟨its, rv, p, _⟩ := I.tuple hq
    have hl := rv.length
    have hA : X.A.in1.handled = none := I.ok.hd hc
    have D1 := Draws.tuple (prog := X.prog) (w := X.w) hA N t (Nat.ne_of_lt ht) its.toArray
    have D2 := Draws.text (prog := X.prog) (w := X.w) hA (N + 1 : Nat) x tk
    have G := GoesN.zip2 (elts := elts) (x1 := kk) (pos := tpos) (zip_sep2 (N := N) (fp1 := [t]) (fp2 := []) (fun b hb => by rw [List.mem_singleton.mp hb]; exact ht) (fun b hb => by cases hb)) D1 D2
    refine G.goes i s (fun u s2 => ∃ y H', Inv X pins σ H' s2 ∧ RelV y u ∧ (ItzS X.K t xs x).yld i H y H' ∧ _ ∧ ∀ b ∈ [(N + 4 : Nat), (N + 2 : Nat), (N + 3 : Nat), N, (N + 1 : Nat)], H' b = none) E (by rw [List.size_toArray, ← hl]; exact hi) ⟨hz, hTI, hTO, ⟨h1, p⟩, h2⟩ fun v h' tk' hY st' hk htk => ?_
    obtain ⟨T, x', y', rfl, hnew, hx, ⟨c, u, hc', ey⟩, hT⟩ := hY
    subst ey
    obtain ⟨hz', hTI', hTO', ⟨h1', _⟩, h2'⟩ := st'
    have hx2 : its[i]? = some x' := by simpa using hx
    have hlt : i < xs.length := Nat.lt_of_lt_of_le hi (Nat.min_le_left _ _)
    have hxs : xs[i]? = some xs[i] := List.getElem?_eq_getElem hlt
    obtain ⟨x2, e2, r2⟩ := rv.get hxs
    rw [hx2] at e2
    cases e2
    have new : ObjOk X.prog X.w (upd H T (.tup [xs[i], .str ⟨#[c]⟩])) h' T (.tup [xs[i], .str ⟨#[c]⟩]) :=
      ⟨by show 2 ≤ sizeLine; decide, [x', .str ⟨#[c]⟩ u], .cons r2 (.cons ⟨u, rfl⟩ .nil), hT⟩
    have I1 : Inv X pins σ (upd H T (.tup [xs[i], .str ⟨#[c]⟩])) { s with heap := h', toks := tk' } :=
      I.turnedNew (t' := tk') (ch := [(N + 4 : Nat), (N + 2 : Nat), (N + 3 : Nat), N, (N + 1 : Nat)]) (fun c o hb q => hk c o (fun q' => hb (by simp at q' ⊢; rcases q' with z | z | z | z <;> simp [z])) q) hf hnew new
    refine ⟨.ref T, _, I1, rfl, ⟨T, xs[i], c, rfl, I.hok.fresh hnew, rfl, hxs, hc'⟩, ⟨hz', hTI', hTO', h1', h2'⟩, fun b hb => ?_⟩
    have hbl : b < s.heap.objs.size := by
      have e' : b = (N + 4 : Nat) ∨ b = (N + 2 : Nat) ∨ b = (N + 3 : Nat) ∨ b = N ∨ b = (N + 1 : Nat) := by simpa using hb
      obtain ⟨a1, a2, hTO2⟩ := hTO
      rcases e' with q | q | q | q | q
      · rw [q]; exact Heap.lt_size hz
      · rw [q]; exact Heap.lt_size hTI
      · rw [q]; exact Heap.lt_size hTO2
      · rw [q]; obtain ⟨_, e1, _⟩ := h1; exact Heap.lt_size e1
      · rw [q]; obtain ⟨_, e2, _⟩ := h2; exact Heap.lt_size e2
    rw [upd_ne (Nat.ne_of_lt (Nat.lt_of_lt_of_le hbl hnew))]
    exact (hf b hb).1
  done := by
    intro X hP hw hK hc i pins s σ H E I hf st hg
    subst hP hw hK
    obtain ⟨hz, hTI, hTO, h1, h2⟩ := st
    obtain ⟨hq, hi⟩ := hg
    obtain ⟨its, rv, p, _⟩ := I.tuple hq
    have hl := rv.length
    have hA : X.A.in1.handled = none := I.ok.hd hc
    have D1 := Draws.tuple (prog := X.prog) (w := X.w) hA N t (Nat.ne_of_lt ht) its.toArray
    have D2 := Draws.text (prog := X.prog) (w := X.w) hA (N + 1 : Nat) x tk
    have G := GoesN.zip2 (elts := elts) (x1 := kk) (pos := tpos) (zip_sep2 (N := N) (fp1 := [t]) (fp2 := []) (fun b hb => by rw [List.mem_singleton.mp hb]; exact ht) (fun b hb => by cases hb)) D1 D2
    have ei : i = min its.toArray.size x.cps.size := by rw [List.size_toArray, ← hl]; exact hi
    subst ei
    refine G.stops s (fun s1 => Inv X pins σ H s1) E ⟨hz, hTI, hTO, ⟨h1, p⟩, h2⟩ fun h' tk' hk htk => ?_
    exact I.turnedL (t' := tk') (ch := [(N + 4 : Nat), (N + 2 : Nat), (N + 3 : Nat), N, (N + 1 : Nat)]) (fun c o hb q => hk c o (fun q' => hb (by simp at q' ⊢; rcases q' with z | z | z | z <;> simp [z])) q) hf
  self := fun A i s Q E st h => wpAny_pyIter_zip st.1 h
def iZipS (K : PySem.W.Frag) (ta : TA) : TI := fun σ H R => ta σ H fun vs H1 => ∃ t xs x, vs = [.ref t, .str x] ∧ SqT K H1 t xs ∧ R (ItzS K t xs x) H1
theorem pi_zipS {X : Cx} {e e2 : Expr} {ta : TA} {p pos tpos : Pos} {elts : List Expr} {kk : Nat} (hg : Gl X "zip") (hm : X.mg "zip" = none) (ha : PA X [e, e2] ta)
    (hs : starEach [e, e2] X.env = (false, eval e X.env) :: starEach [e2] X.env := by rfl) (hpl : (backTo pos (starEach [e2] X.env)).any (·.1) = false := by rfl) :
    PI X (.Tuple elts kk tpos) (.Call (.Name "zip" p) [e, e2] [] pos) (iZipS X.K ta) := by
  refine ⟨fun pins s σ H R I h => ?_⟩
  refine Call_ (ld_blt I hg hm PyProof.Rows.boot_zip (PyProof.Rows.callWith_type1 (thn (ha.run pos pins s σ H _ I h) fun us s1 ⟨vs, H1, I1, r1, q1⟩ => ?_) hs hpl))
  obtain ⟨t, xs, x, ex, hq, q1⟩ := q1
  subst ex
  cases r1 with
  | cons r rr =>
    cases rr with
    | cons r' rr =>
      cases rr
      cases (show _ = Value.ref t from r)
      obtain ⟨tk, e'⟩ := (show ∃ tk, _ = Value.str x tk from r')
      subst e'
      obtain ⟨its, rv, p1, _⟩ := I1.tuple hq
      obtain ⟨o1, ho1, _⟩ := id p1
      have ht : t < s1.heap.objs.size := Heap.lt_size ho1
      refine zip_begins2 (begins_tuple t its.toArray) (begins_text x tk) (show s1.heap.IsTuple t its.toArray from p1) True.intro fun h' hz hTI hTO h1 h2 hsz hk => wpAny_pyIter_zip hz ?_
      have I2 : Inv X pins σ H1 { s1 with heap := h' } := I1.kept (t' := s1.toks) hk
      refine ⟨_, _, _, _, H1, rfl, I2, turn_zipS (tk := tk) ht, ⟨hz, hTI, ⟨_, _, hTO⟩, ⟨_, h1, rfl, rfl⟩, ⟨_, h2, rfl, rfl⟩⟩, fun c hcm => ?_, q1⟩
      have e' : c = (s1.heap.objs.size + 4 : Nat) ∨ c = (s1.heap.objs.size + 2 : Nat) ∨ c = (s1.heap.objs.size + 3 : Nat) ∨ c = s1.heap.objs.size ∨ c = (s1.heap.objs.size + 1 : Nat) := by simpa using hcm
      have hle : s1.heap.objs.size ≤ c := by
        rcases e' with z | z | z | z | z
        · rw [z]; exact Nat.le_add_right _ _
        · rw [z]; exact Nat.le_add_right _ _
        · rw [z]; exact Nat.le_add_right _ _
        · rw [z]; exact Nat.le_refl _
        · rw [z]; exact Nat.le_add_right _ _
      exact I1.fpOk hle (I1.hok.fresh hle)
/-- a list comprehension over it -/
theorem lc_zipS {K : PySem.W.Frag} {t : Addr} {xs : List V} {x : Str} {g : TG} {tt : TT} {te : TE} {vs : List Nat} {σ : L2.St} {H1 : Hp} {D : Addr} {Qd : Hp → Prop} (Pv : Nat → Hp → Prop) (h0 : Pv 0 (upd H1 D (.lst []))) (hl : ∀ i H, i ≤ min xs.length x.cps.size → Pv i H → SqT K H t xs)
    (hs : ∀ i y c T H, xs[i]? = some y → x.cps[i]? = some c → Pv i H → H T = none → g (.ref T) (wipe σ vs) (upd H T (.tup [y, .str ⟨#[c]⟩])) fun σ2 H2 => wipe σ2 vs = wipe σ vs ∧ tt σ2 H2 fun b H3 =>
      if b = true then te σ2 H3 fun y H4 => ∃ acc, H4 D = some (.lst acc) ∧ acc.length < sizeLine ∧ Pv (i + 1) (upd H4 D (.lst (acc ++ [y]))) else Pv (i + 1) H3) (hd : ∀ H, Pv (min xs.length x.cps.size) H → Qd H) :
    ∃ W : Nat → Nat → Hp → Prop, (∃ m, W 0 m (upd H1 D (.lst []))) ∧ ∀ i m H, W i m H →
      ((ItzS K t xs x).stop i H ∧ Qd H) ∨ ((ItzS K t xs x).go i H ∧ ∃ Nx : Hp → Prop, (∀ H', Nx H' → ∃ m', m' < m ∧ W (i + 1) m' H') ∧ ∀ v H', (ItzS K t xs x).yld i H v H' → g v (wipe σ vs) H' fun σ2 H2 => wipe σ2 vs = wipe σ vs ∧ tt σ2 H2 fun b H3 =>
        if b = true then te σ2 H3 fun y H4 => ∃ acc, H4 D = some (.lst acc) ∧ acc.length < sizeLine ∧ Nx (upd H4 D (.lst (acc ++ [y]))) else Nx H3) := by
  refine ⟨fun i m H => m = min xs.length x.cps.size - i ∧ i ≤ min xs.length x.cps.size ∧ Pv i H, ⟨min xs.length x.cps.size, by simp, Nat.zero_le _, h0⟩, ?_⟩
  rintro i m H ⟨rfl, hi, p⟩
  have q := hl i H hi p
  by_cases hlt : i < min xs.length x.cps.size
  · refine .inr ⟨⟨q, hlt⟩, Pv (i + 1), fun H' p' => ⟨min xs.length x.cps.size - (i + 1), by omega, rfl, hlt, p'⟩, fun v H' z => ?_⟩
    obtain ⟨T, y, c, rfl, hT, rfl, hy, hc⟩ := z
    exact hs i y c T H hy hc p hT
  · have e : i = min xs.length x.cps.size := by omega
    exact .inl ⟨⟨q, e⟩, hd H (e ▸ p)⟩

/-! ### written dicts with text keys -/
section
variable {X : Cx} {o e : Expr} {apos cpos : Pos} {td ty : TE}
/-- D.get(k), D a written dict -/
def tKGet (K : PySem.W.Frag) (w : World) (td ty : TE) : TE := fun σ H Q => td σ H fun x H1 => ∃ d es n, x = .ref d ∧ KDict K w d es n ∧ ty σ H1 fun y H2 => ∃ z r v, y = .str z ∧ PySem.W.nsIn K d z = some r ∧ (match r with
  | some u0 => RelV v u0
  | none => v = .non) ∧ Q v H2
theorem pe_kget1 (ho : PE X o td) (he : PE X e ty) (m : M1 X o "get" apos e cpos) : PE X (.Call (.Attribute o "get" apos) [e] [] cpos) (tKGet X.K X.w td ty) := by
  refine ⟨fun pins s σ H Q I h => ?_⟩
  refine wpAny_Call_method m.base m.few m.line PySem.F.plainAttrs_dict PySem.F.slot_dict_get PySem.F.type_dict_get (thn (ho.run pins s σ H _ I h) fun u s1 ⟨x, H1, I1, rx, d, es, n, ex, D, q1⟩ => ?_)
  subst ex
  obtain rfl : u = Value.ref d := rx
  refine ⟨kd_type D I1, fun b q => ?_, ?_⟩
  · cases q
    exact ⟨_, I1.kIn _ _ D.at_, rfl⟩
  rw [m.trees]
  refine Calls.callWith_builtin rfl (Calls.evalArgs_plain (Calls.spliced_cons (thn (he.run pins s1 σ H1 _ I1 q1) fun iv s2 ⟨y, H2, I2, ry, z, r, v, ey, en, hv, q2⟩ => Calls.spliced_nil ?_)))
  subst ey
  obtain ⟨t, rfl⟩ := ry
  have hm := PySem.W.mapOf_K (prog := X.prog) (w := X.w) I2.kIn D.at_ D.lit
  refine call_meetsIn PySem.F.slot_dict_get (kd_type D I2) PySem.F.entry_dict_get (PySem.F.args_dict_get_2 _ _) (meets_dict_get (strKind X.prog X.w) d (PySem.strKind_is X.prog X.w z t) D.low) ⟨_, hm, ?_⟩
  rw [PySem.W.find_K D.at_ en]
  cases r with
  | none => exact ⟨v, H2, I2.tok _, by subst hv; rfl, q2⟩
  | some u0 => exact ⟨v, H2, I2.tok _, hv, q2⟩
/-- k in D, k not in D -/
def rInKd (K : PySem.W.Frag) (w : World) (neg : Bool) : R2 := fun x y H Q => ∃ d es n z r, x = .str z ∧ y = .ref d ∧ KDict K w d es n ∧ PySem.W.nsIn K d z = some r ∧ Q (.bl (if neg = true then !r.isSome else r.isSome)) H
theorem op_inKd : OpR X (compareOp .In) (rInKd X.K X.w false) := fun pins s σ H x y v u Q I rx ry ⟨d, es, n, z, r, ex, ey, D, e, q⟩ => op_in_kd D pins s σ H x y v u Q I rx ry ⟨z, r, ex, ey, e, q⟩
theorem op_notInKd : OpR X (compareOp .NotIn) (rInKd X.K X.w true) := fun pins s σ H x y v u Q I rx ry ⟨d, es, n, z, r, ex, ey, D, e, q⟩ => op_notIn_kd D pins s σ H x y v u Q I rx ry ⟨z, r, ex, ey, e, q⟩
end
end Fs

set_option Elab.async false
set_option linter.all false
set_option maxRecDepth 100000
set_option maxHeartbeats 4000000
/-! FsEx: further facts of the written part, as truths that are computed. -/
namespace Fs
open PySem PySem.Spec PyProof.Rows L2
def kitB1 (K : PySem.W.Frag) (t u : Value) (b : Bool) : Bool := decide (PySem.W.kitOne K t u = some b)
theorem kitB1_ok {K : PySem.W.Frag} {t u : Value} {b : Bool} (h : kitB1 K t u b = true) : PySem.W.kitOne K t u = some b := of_decide_eq_true h
def tyNames : List String := ["int", "bool", "str", "NoneType", "list", "tuple", "dict"]
def oc (K : PySem.W.Frag) (C : Addr) : Bool := decide (PySem.W.findIn K (.ref C) "__class__" = some (some (.builtin "object.__class__"))) && (decide (PySem.W.specialIn K (.builtin "object.__class__") "__get__" = some (some (.builtin "getset_descriptor.__get__"))) &&
  (decide (PySem.W.takesIn K (.builtin "object.__class__") = some true) && decide (PySem.W.mroIn K C (.type "object") = some true)))
structure OcF (K : PySem.W.Frag) (C : Addr) : Prop where
  ha : PySem.W.findIn K (.ref C) "__class__" = some (some (.builtin "object.__class__"))
  hn : PySem.W.specialIn K (.builtin "object.__class__") "__get__" = some (some (.builtin "getset_descriptor.__get__"))
  ht : PySem.W.takesIn K (.builtin "object.__class__") = some true
  hm : PySem.W.mroIn K C (.type "object") = some true
theorem oc_ok {K : PySem.W.Frag} {C : Addr} (h : oc K C = true) : OcF K C := by
  unfold oc at h
  simp only [Bool.and_eq_true, decide_eq_true_eq] at h
  obtain ⟨h1, h2, h3, h4⟩ := h
  exact ⟨h1, h2, h3, h4⟩
def excCB (K : PySem.W.Frag) (C : Addr) : Bool := decide (PySem.W.findIn K (.ref C) "__getattribute__" = some (some (.builtin "BaseException.__getattribute__"))) && (decide (PySem.W.findIn K (.ref C) "__getattr__" = some none) &&
  (decide (PySem.W.subIn K (.ref C) (.type "BaseException") = some true) && (PySem.W.hasDictIn K C && oc K C)))
theorem excCB_ok {K : PySem.W.Frag} {C : Addr} (h : excCB K C = true) : ExcC K C := by
  unfold excCB at h
  simp only [Bool.and_eq_true, decide_eq_true_eq] at h
  obtain ⟨h1, h2, h3, h4, h5⟩ := h
  have o := oc_ok h5
  exact ⟨h1, h2, h3, h4, o.ha, o.hn, o.ht, o.hm⟩
def txtB (K : PySem.W.Frag) (d : Addr) (k v : Str) : Bool := match PySem.W.nsIn K d k with
  | some (some (.str x _)) => decide (x = v)
  | _ => false
theorem txtB_ok {K : PySem.W.Frag} {d : Addr} {k v : Str} (h : txtB K d k v = true) : ∃ t, PySem.W.nsIn K d k = some (some (.str v t)) := by
  unfold txtB at h
  split at h
  · rename_i x t e
    have e2 := of_decide_eq_true h
    subst e2
    exact ⟨t, e⟩
  · cases h
/-- an instance of an own class, for isinstance -/
theorem tyx_ins {K : PySem.W.Frag} {H : Hp} {a C dx : Addr} {fs : List (Str × V)} (e : H a = some (.ins C dx fs)) (c : Cls K C) (o : OcF K C) : TyX K H (.ref a) (.ref C) := .base (.ins e c o.ha o.hn o.ht o.hm)
end Fs

set_option Elab.async false
set_option linter.all false
set_option maxRecDepth 100000
set_option maxHeartbeats 4000000
/-! FsRep: t * k of a tuple that isn't empty, any small k that is not negative. -/
namespace Fs
open PySem PySem.Spec PyProof.Rows L2
theorem tuple_mul1 (l : Addr) (items : Array Value) (n : Nat) (sl : Array (Option Value)) (dd : Option Addr) (u : Tok) (c1 : items.isEmpty = false) :
    Meets (Builtin.«tuple.__mul__» ⟨[.ref l, .int 1 u], []⟩) (fun _ R s => s.heap.get? l = some { cls := .type "tuple", dict := dd, data := .seq items n, slots := sl } ∧ R (.ok (.ret (Value.ref l))) s) :=
  .of_wp fun prog w A R s h => by
    obtain ⟨hp, g, d, tk, os⟩ := s
    obtain ⟨hl, h⟩ := h
    have f1 := AutoSeq1.idx_int
    wp_walk using wpAny_loadPart' hl
    exact ⟨_, rfl, h⟩
theorem tuple_mul0 (l : Addr) (items : Array Value) (n : Nat) (sl : Array (Option Value)) (dd : Option Addr) (u : Tok) (c1 : items.isEmpty = false) :
    Meets (Builtin.«tuple.__mul__» ⟨[.ref l, .int 0 u], []⟩) (fun _ R s => s.heap.get? l = some { cls := .type "tuple", dict := dd, data := .seq items n, slots := sl } ∧
      R (.ok (.ret (Value.ref s.heap.objs.size))) { s with heap := s.heap.push { cls := Value.type "tuple", data := Data.seq #[] }, toks := s.toks }) :=
  .of_wp fun prog w A R s h => by
    obtain ⟨hp, g, d, tk, os⟩ := s
    obtain ⟨hl, h⟩ := h
    have f1 := AutoSeq1.idx_int
    wp_walk using wpAny_loadPart' hl
    exact ⟨_, rfl, h⟩

def rRepA (K : PySem.W.Frag) : R2 := fun x y H Q => ∃ l k xs, x = .ref l ∧ y = .int k ∧ SqT K H l xs ∧ xs ≠ [] ∧ 0 ≤ k ∧ k ≤ 1000 ∧ xs.length ≤ 1000 ∧ ∀ p H', Ex H H' → SqT K H' p (List.replicate k.toNat xs).flatten → Q (.ref p) H'
theorem op_repA {X : Cx} : OpR X (binaryOp .Mult) (rRepA X.K) := by
  intro pins s σ H x y v u Q I rx ry h
  obtain ⟨l, k, xs, rfl, rfl, hT, hne, h0, h2, hz, q⟩ := h
  by_cases h1 : 2 ≤ k
  · exact op_repT pins s σ H _ _ v u Q I rx ry ⟨l, k, xs, rfl, rfl, hT, hne, h1, h2, hz, fun p hp => q p _ (Ex.new hp) (.of upd_same)⟩
  cases rx
  obtain ⟨t, rfl⟩ := ry
  obtain ⟨its, r, ⟨⟨cls, dd, data, sl⟩, ho, hc, n, hd⟩, hs⟩ := I.tuple hT
  simp only at hc hd
  subst hc hd
  have hle : its.length = xs.length := r.length.symm
  have hn : its ≠ [] := fun e => hne (by
    rw [e] at hle
    exact List.eq_nil_of_length_eq_zero hle.symm)
  have hi : its.toArray.isEmpty = false := by
    cases its with
    | nil => exact absurd rfl hn
    | cons a b => rfl
  have hk : k = 0 ∨ k = 1 := by omega
  rcases hk with rfl | rfl
  · refine wpAny_binaryOp_repeat_ref (T := "tuple") (U := "int") (by decide) ⟨_, ho, rfl⟩ (fun s' => typeIs_int s' 0 t) noFill_tuple_mul F.fills_int_mul F.slot_int_rmul repeat_tuple F.slot_int_index.lookup
      (call_meets F.slot_int_rmul (typeIs_int s 0 t) F.entry_int_rmul (F.args_int_rmul_2 _ _) (int_rmul_tuple 0 t l its.toArray n dd sl)
        ⟨ho, rfl, ⟨_, ho, rfl⟩, call_meets F.slot_tuple_mul ⟨_, ho, rfl⟩ F.entry_tuple_mul (F.args_tuple_mul_2 _ _) (tuple_mul0 l its.toArray n sl dd t hi) ⟨ho, ?_⟩⟩)
    refine ⟨.ref s.heap.objs.size, _, I.laid (t' := s.toks) (o := .tup []) (fun b ob q => Heap.get?_push_of_some _ q) (Nat.le_refl _) ?_, rfl, q _ _ (Ex.new (I.hok.fresh (Nat.le_refl _))) (.of upd_same)⟩
    exact ⟨Nat.zero_le _, [], .nil, IsTup.new _ _⟩
  · refine wpAny_binaryOp_repeat_ref (T := "tuple") (U := "int") (by decide) ⟨_, ho, rfl⟩ (fun s' => typeIs_int s' 1 t) noFill_tuple_mul F.fills_int_mul F.slot_int_rmul repeat_tuple F.slot_int_index.lookup
      (call_meets F.slot_int_rmul (typeIs_int s 1 t) F.entry_int_rmul (F.args_int_rmul_2 _ _) (int_rmul_tuple 1 t l its.toArray n dd sl)
        ⟨ho, rfl, ⟨_, ho, rfl⟩, call_meets F.slot_tuple_mul ⟨_, ho, rfl⟩ F.entry_tuple_mul (F.args_tuple_mul_2 _ _) (tuple_mul1 l its.toArray n sl dd t hi) ⟨ho, ?_⟩⟩)
    refine ⟨.ref l, H, I, rfl, q _ _ (Ex.refl H) ?_⟩
    have : (List.replicate (1 : Int).toNat xs).flatten = xs := by simp
    rw [this]
    exact hT
end Fs

set_option Elab.async false
set_option linter.all false
set_option maxRecDepth 100000
set_option maxHeartbeats 4000000
namespace K72
open PySem PySem.Spec PyProof.Rows L2
abbrev Pr : Program := PySem.Challenge.pw_fourstones_k72_leading_back_refused
def top (i : Nat) : Stmt := Pr.main.body.getD i (.Pass ⟨0, 0, 0, 0⟩)
abbrev s_is_integer : Stmt := (top 10)
abbrev s_is_within : Stmt := (top 11)
abbrev s_is_side : Stmt := (top 12)
abbrev s_need_side : Stmt := (top 13)
abbrev s_most_of_mice : Stmt := (top 26)
abbrev s_is_line_mice : Stmt := (top 28)
abbrev s_are_lines : Stmt := (top 30)
abbrev s_MouseU_initU : Stmt := (inClass (top 31) 0)
abbrev s_MouseU_strU : Stmt := (inClass (top 31) 2)
abbrev s_need_mouse : Stmt := (top 34)
abbrev s_most_of_reckoners : Stmt := (top 40)
abbrev s_is_line_reckoners : Stmt := (top 42)
abbrev s_ReckonerU_initU : Stmt := (inClass (top 47) 0)
abbrev s_with_stone : Stmt := (top 50)
abbrev s_place_of : Stmt := (top 51)
abbrev s_does_matter : Stmt := (top 52)
abbrev s_done_at : Stmt := (top 53)
abbrev s_following : Stmt := (top 54)
abbrev s_standings_in : Stmt := (top 55)
abbrev s_line_at : Stmt := (top 56)
abbrev s_standings_of : Stmt := (top 57)
abbrev s_reckoner_of : Stmt := (top 58)
abbrev s__law_beadle : Stmt := (top 60)
abbrev s__law_staff : Stmt := (top 61)
abbrev s__law_pick : Stmt := (top 62)
abbrev s__law_heard : Stmt := (top 63)
abbrev s__law_ring : Stmt := (top 64)
abbrev s__law_bounds_right : Stmt := (top 65)
abbrev s_law : Stmt := (top 66)
def d_is_integer : He.DefD := ⟨("is_integer", none), "is_integer", "is_integer", defArgs s_is_integer, defBody s_is_integer, defScope s_is_integer, [], []⟩
abbrev N_is_integer : List Str := ["value"]
theorem sc_is_integer : FnScope N_is_integer ["value"] (defScope s_is_integer) := ⟨rfl, rfl, rfl, by decide +kernel, rfl, by decide +kernel, by decide +kernel⟩
def d_is_within : He.DefD := ⟨("is_within", none), "is_within", "is_within", defArgs s_is_within, defBody s_is_within, defScope s_is_within, [], []⟩
abbrev N_is_within : List Str := ["value", "least", "most"]
theorem sc_is_within : FnScope N_is_within ["value", "least", "most"] (defScope s_is_within) := ⟨rfl, rfl, rfl, by decide +kernel, rfl, by decide +kernel, by decide +kernel⟩
def d_is_side : He.DefD := ⟨("is_side", none), "is_side", "is_side", defArgs s_is_side, defBody s_is_side, defScope s_is_side, [], []⟩
abbrev N_is_side : List Str := ["value"]
theorem sc_is_side : FnScope N_is_side ["value"] (defScope s_is_side) := ⟨rfl, rfl, rfl, by decide +kernel, rfl, by decide +kernel, by decide +kernel⟩
def d_need_side : He.DefD := ⟨("need_side", none), "need_side", "need_side", defArgs s_need_side, defBody s_need_side, defScope s_need_side, [.str "side"], []⟩
abbrev N_need_side : List Str := ["value", "part"]
theorem sc_need_side : FnScope N_need_side ["value", "part"] (defScope s_need_side) := ⟨rfl, rfl, rfl, by decide +kernel, rfl, by decide +kernel, by decide +kernel⟩
def d_most_of_mice : He.DefD := ⟨("most_of_mice", none), "most_of", "most_of", defArgs s_most_of_mice, defBody s_most_of_mice, defScope s_most_of_mice, [], []⟩
abbrev N_most_of_mice : List Str := ["form", "stones", "lines"]
theorem sc_most_of_mice : FnScope N_most_of_mice ["form", "stones", "lines"] (defScope s_most_of_mice) := ⟨rfl, rfl, rfl, by decide +kernel, rfl, by decide +kernel, by decide +kernel⟩
def d_is_line_mice : He.DefD := ⟨("is_line_mice", none), "is_line", "is_line", defArgs s_is_line_mice, defBody s_is_line_mice, defScope s_is_line_mice, [], []⟩
abbrev N_is_line_mice : List Str := ["value", "stones", "lines", "form", "each", "its"]
theorem sc_is_line_mice : FnScope N_is_line_mice ["value", "stones", "lines"] (defScope s_is_line_mice) := ⟨rfl, rfl, rfl, by decide +kernel, rfl, by decide +kernel, by decide +kernel⟩
def d_are_lines : He.DefD := ⟨("are_lines", none), "are_lines", "are_lines", defArgs s_are_lines, defBody s_are_lines, defScope s_are_lines, [], []⟩
abbrev N_are_lines : List Str := ["value", "stones", "each"]
theorem sc_are_lines : FnScope N_are_lines ["value", "stones"] (defScope s_are_lines) := ⟨rfl, rfl, rfl, by decide +kernel, rfl, by decide +kernel, by decide +kernel⟩
def d_MouseU_initU : He.DefD := ⟨("Mouse", some "__init__"), "__init__", "Mouse.__init__", defArgs s_MouseU_initU, defBody s_MouseU_initU, defScope s_MouseU_initU, [], []⟩
abbrev N_MouseU_initU : List Str := ["self", "stones", "lines", "line"]
theorem sc_MouseU_initU : FnScope N_MouseU_initU ["self", "stones", "lines"] (defScope s_MouseU_initU) := ⟨rfl, rfl, rfl, by decide +kernel, rfl, by decide +kernel, by decide +kernel⟩
def d_MouseU_strU : He.DefD := ⟨("Mouse", some "__str__"), "__str__", "Mouse.__str__", defArgs s_MouseU_strU, defBody s_MouseU_strU, defScope s_MouseU_strU, [], []⟩
abbrev N_MouseU_strU : List Str := ["self", "items", "line", "each"]
theorem sc_MouseU_strU : FnScope N_MouseU_strU ["self"] (defScope s_MouseU_strU) := ⟨rfl, rfl, rfl, by decide +kernel, rfl, by decide +kernel, by decide +kernel⟩
def d_need_mouse : He.DefD := ⟨("need_mouse", none), "need_mouse", "need_mouse", defArgs s_need_mouse, defBody s_need_mouse, defScope s_need_mouse, [.str "mouse"], []⟩
abbrev N_need_mouse : List Str := ["value", "part"]
theorem sc_need_mouse : FnScope N_need_mouse ["value", "part"] (defScope s_need_mouse) := ⟨rfl, rfl, rfl, by decide +kernel, rfl, by decide +kernel, by decide +kernel⟩
def d_most_of_reckoners : He.DefD := ⟨("most_of_reckoners", none), "most_of", "most_of", defArgs s_most_of_reckoners, defBody s_most_of_reckoners, defScope s_most_of_reckoners, [], []⟩
abbrev N_most_of_reckoners : List Str := ["kind", "boxes", "lines"]
theorem sc_most_of_reckoners : FnScope N_most_of_reckoners ["kind", "boxes", "lines"] (defScope s_most_of_reckoners) := ⟨rfl, rfl, rfl, by decide +kernel, rfl, by decide +kernel, by decide +kernel⟩
def d_is_line_reckoners : He.DefD := ⟨("is_line_reckoners", none), "is_line", "is_line", defArgs s_is_line_reckoners, defBody s_is_line_reckoners, defScope s_is_line_reckoners, [], []⟩
abbrev N_is_line_reckoners : List Str := ["value", "boxes", "lines", "part", "kind"]
theorem sc_is_line_reckoners : FnScope N_is_line_reckoners ["value", "boxes", "lines"] (defScope s_is_line_reckoners) := ⟨rfl, rfl, rfl, by decide +kernel, rfl, by decide +kernel, by decide +kernel⟩
def d_ReckonerU_initU : He.DefD := ⟨("Reckoner", some "__init__"), "__init__", "Reckoner.__init__", defArgs s_ReckonerU_initU, defBody s_ReckonerU_initU, defScope s_ReckonerU_initU, [], []⟩
abbrev N_ReckonerU_initU : List Str := ["self", "boxes", "lines", "each"]
theorem sc_ReckonerU_initU : FnScope N_ReckonerU_initU ["self", "boxes", "lines"] (defScope s_ReckonerU_initU) := ⟨rfl, rfl, rfl, by decide +kernel, rfl, by decide +kernel, by decide +kernel⟩
def d_with_stone : He.DefD := ⟨("with_stone", none), "with_stone", "with_stone", defArgs s_with_stone, defBody s_with_stone, defScope s_with_stone, [], []⟩
abbrev N_with_stone : List Str := ["standing", "stone", "place", "line", "nose", "stones"]
theorem sc_with_stone : FnScope N_with_stone ["standing", "stone", "place"] (defScope s_with_stone) := ⟨rfl, rfl, rfl, by decide +kernel, rfl, by decide +kernel, by decide +kernel⟩
def d_place_of : He.DefD := ⟨("place_of", none), "place_of", "place_of", defArgs s_place_of, defBody s_place_of, defScope s_place_of, [], []⟩
abbrev N_place_of : List Str := ["standing", "spot"]
theorem sc_place_of : FnScope N_place_of ["standing", "spot"] (defScope s_place_of) := ⟨rfl, rfl, rfl, by decide +kernel, rfl, by decide +kernel, by decide +kernel⟩
def d_does_matter : He.DefD := ⟨("does_matter", none), "does_matter", "does_matter", defArgs s_does_matter, defBody s_does_matter, defScope s_does_matter, [], []⟩
abbrev N_does_matter : List Str := ["standing", "told"]
theorem sc_does_matter : FnScope N_does_matter ["standing", "told"] (defScope s_does_matter) := ⟨rfl, rfl, rfl, by decide +kernel, rfl, by decide +kernel, by decide +kernel⟩
def d_done_at : He.DefD := ⟨("done_at", none), "done_at", "done_at", defArgs s_done_at, defBody s_done_at, defScope s_done_at, [], []⟩
abbrev N_done_at : List Str := ["standing", "told"]
theorem sc_done_at : FnScope N_done_at ["standing", "told"] (defScope s_done_at) := ⟨rfl, rfl, rfl, by decide +kernel, rfl, by decide +kernel, by decide +kernel⟩
def d_following : He.DefD := ⟨("following", none), "following", "following", defArgs s_following, defBody s_following, defScope s_following, [], []⟩
abbrev N_following : List Str := ["mouse", "standing", "told", "is_so", "later"]
theorem sc_following : FnScope N_following ["mouse", "standing"] (defScope s_following) := ⟨rfl, rfl, rfl, by decide +kernel, rfl, by decide +kernel, by decide +kernel⟩
def d_standings_in : He.DefD := ⟨("standings_in", none), "standings_in", "standings_in", defArgs s_standings_in, defBody s_standings_in, defScope s_standings_in, [], []⟩
abbrev N_standings_in : List Str := ["mouse", "side", "most", "first", "known", "row", "at", "other"]
theorem sc_standings_in : FnScope N_standings_in ["mouse", "side", "most"] (defScope s_standings_in) := ⟨rfl, rfl, rfl, by decide +kernel, rfl, by decide +kernel, by decide +kernel⟩
def d_line_at : He.DefD := ⟨("line_at", none), "line_at", "line_at", defArgs s_line_at, defBody s_line_at, defScope s_line_at, [], []⟩
abbrev N_line_at : List Str := ["mouse", "known", "standing", "told", "aims", "other", "word", "fault"]
theorem sc_line_at : FnScope N_line_at ["mouse", "known", "standing"] (defScope s_line_at) := ⟨rfl, rfl, rfl, by decide +kernel, rfl, by decide +kernel, by decide +kernel⟩
def d_standings_of : He.DefD := ⟨("standings_of", none), "standings_of", "standings_of", defArgs s_standings_of, defBody s_standings_of, defScope s_standings_of, [], []⟩
abbrev N_standings_of : List Str := ["mouse", "side", "known"]
theorem sc_standings_of : FnScope N_standings_of ["mouse", "side"] (defScope s_standings_of) := ⟨rfl, rfl, rfl, by decide +kernel, rfl, by decide +kernel, by decide +kernel⟩
def d_reckoner_of : He.DefD := ⟨("reckoner_of", none), "reckoner_of", "reckoner_of", defArgs s_reckoner_of, defBody s_reckoner_of, defScope s_reckoner_of, [], []⟩
abbrev N_reckoner_of : List Str := ["mouse", "side", "known", "standing"]
theorem sc_reckoner_of : FnScope N_reckoner_of ["mouse", "side"] (defScope s_reckoner_of) := ⟨rfl, rfl, rfl, by decide +kernel, rfl, by decide +kernel, by decide +kernel⟩
def d__law_beadle : He.DefD := ⟨("_law_beadle", none), "_law_beadle", "_law_beadle", defArgs s__law_beadle, defBody s__law_beadle, defScope s__law_beadle, [], []⟩
abbrev N__law_beadle : List Str := ["_law_script", "_law_cell"]
theorem sc__law_beadle : FnScope N__law_beadle ["_law_script"] (defScope s__law_beadle) := ⟨rfl, rfl, rfl, by decide +kernel, rfl, by decide +kernel, by decide +kernel⟩
def d__law_staff : He.DefD := ⟨("_law_staff", none), "_law_staff", "_law_staff", defArgs s__law_staff, defBody s__law_staff, defScope s__law_staff, [], []⟩
abbrev N__law_staff : List Str := ["_law_beadle_here", "_law_many", "_law_left", "_law_turn", "_law_cell", "_law_mixed"]
theorem sc__law_staff : FnScope N__law_staff ["_law_beadle_here", "_law_many"] (defScope s__law_staff) := ⟨rfl, rfl, rfl, by decide +kernel, rfl, by decide +kernel, by decide +kernel⟩
def d__law_pick : He.DefD := ⟨("_law_pick", none), "_law_pick", "_law_pick", defArgs s__law_pick, defBody s__law_pick, defScope s__law_pick, [], []⟩
abbrev N__law_pick : List Str := ["_law_beadle_here", "_law_some"]
theorem sc__law_pick : FnScope N__law_pick ["_law_beadle_here", "_law_some"] (defScope s__law_pick) := ⟨rfl, rfl, rfl, by decide +kernel, rfl, by decide +kernel, by decide +kernel⟩
def d__law_heard : He.DefD := ⟨("_law_heard", none), "_law_heard", "_law_heard", defArgs s__law_heard, defBody s__law_heard, defScope s__law_heard, [], []⟩
abbrev N__law_heard : List Str := ["_law_ask", "_law_caught", "error", "_law_rows", "_law_words", "_law_word", "_law_is_so"]
theorem sc__law_heard : FnScope N__law_heard ["_law_ask"] (defScope s__law_heard) := ⟨rfl, rfl, rfl, by decide +kernel, rfl, by decide +kernel, by decide +kernel⟩
def d__law_ring : He.DefD := ⟨("_law_ring", none), "_law_ring", "_law_ring", defArgs s__law_ring, defBody s__law_ring, defScope s__law_ring, [], []⟩
abbrev N__law_ring : List Str := ["_law_beadle_here", "_law_word", "_law_long", "_law_stones", "_law_first", "_law_at"]
theorem sc__law_ring : FnScope N__law_ring ["_law_beadle_here", "_law_word", "_law_long", "_law_stones"] (defScope s__law_ring) := ⟨rfl, rfl, rfl, by decide +kernel, rfl, by decide +kernel, by decide +kernel⟩
def d__law_bounds_right : He.DefD := ⟨("_law_bounds_right", none), "_law_bounds_right", "_law_bounds_right", defArgs s__law_bounds_right, defBody s__law_bounds_right, defScope s__law_bounds_right, [], []⟩
abbrev N__law_bounds_right : List Str := ["_law_beadle_here", "_law_word", "_law_long", "_law_is_let", "_law_mouse", "_law_side", "_law_due", "_law_told"]
theorem sc__law_bounds_right : FnScope N__law_bounds_right ["_law_beadle_here"] (defScope s__law_bounds_right) := ⟨rfl, rfl, rfl, by decide +kernel, rfl, by decide +kernel, by decide +kernel⟩
def d_law : He.DefD := ⟨("law", none), "law", "law", defArgs s_law, defBody s_law, defScope s_law, [], []⟩
abbrev N_law : List Str := ["_law_script", "_law_beadle_here", "_law_turn", "_law_mouse", "_law_none", "_law_odd", "_law_great", "_law_heard_here", "_law_far"]
theorem sc_law : FnScope N_law ["_law_script"] (defScope s_law) := ⟨rfl, rfl, rfl, by decide +kernel, rfl, by decide +kernel, by decide +kernel⟩
abbrev x_BadNumber : Stmt := (inClass (top 3) 0)
def e_BadNumber : Fs.ExD := ⟨"BadNumber", "BadNumber.__init__", defArgs x_BadNumber, defBody x_BadNumber, defScope x_BadNumber, ["part"]⟩
theorem sx_BadNumber : Fs.ExcS ["self", "part"] ["self", "part"] (defScope x_BadNumber) := Fs.excS_by (by decide +kernel)
abbrev x_BadMouse : Stmt := (inClass (top 4) 0)
def e_BadMouse : Fs.ExD := ⟨"BadMouse", "BadMouse.__init__", defArgs x_BadMouse, defBody x_BadMouse, defScope x_BadMouse, ["part"]⟩
theorem sx_BadMouse : Fs.ExcS ["self", "part"] ["self", "part"] (defScope x_BadMouse) := Fs.excS_by (by decide +kernel)
abbrev x_Misfit : Stmt := (inClass (top 6) 0)
def e_Misfit : Fs.ExD := ⟨"Misfit", "Misfit.__init__", defArgs x_Misfit, defBody x_Misfit, defScope x_Misfit, ["part"]⟩
theorem sx_Misfit : Fs.ExcS ["self", "part"] ["self", "part"] (defScope x_Misfit) := Fs.excS_by (by decide +kernel)
abbrev x_TooMany : Stmt := (inClass (top 7) 0)
def e_TooMany : Fs.ExD := ⟨"TooMany", "TooMany.__init__", defArgs x_TooMany, defBody x_TooMany, defScope x_TooMany, ["what", "most"]⟩
theorem sx_TooMany : Fs.ExcS ["self", "what", "most"] ["self", "what", "most"] (defScope x_TooMany) := Fs.excS_by (by decide +kernel)
def fn : List He.DefD := [d_is_integer, d_is_within, d_is_side, d_need_side, d_most_of_mice, d_is_line_mice, d_are_lines, d_MouseU_initU, d_MouseU_strU, d_need_mouse, d_most_of_reckoners, d_is_line_reckoners, d_ReckonerU_initU, d_with_stone, d_place_of, d_does_matter, d_done_at, d_following, d_standings_in, d_line_at, d_standings_of, d_reckoner_of, d__law_beadle, d__law_staff, d__law_pick, d__law_heard, d__law_ring, d__law_bounds_right, d_law]
def es : List Fs.ExD := [e_BadNumber, e_BadMouse, e_Misfit, e_TooMany]
def fa : List He.Fa := [.glo "is_integer", .glo "is_within", .glo "is_side", .glo "need_side", .glo "most_of_mice", .glo "is_line_mice", .glo "are_lines", .glo "need_mouse", .glo "most_of_reckoners", .glo "is_line_reckoners", .glo "with_stone", .glo "place_of", .glo "does_matter", .glo "done_at", .glo "following", .glo "standings_in", .glo "line_at", .glo "standings_of", .glo "reckoner_of", .glo "_law_beadle", .glo "_law_staff", .glo "_law_pick", .glo "_law_heard", .glo "_law_ring", .glo "_law_bounds_right", .glo "law", .glo "BadNumber", .glo "BadMouse", .glo "Misfit", .glo "TooMany", .glo "StoneError", .glo "Mouse", .glo "Reckoner", .glo "FORMS", .glo "SHAPES", .free "len", .free "isinstance", .free "int", .free "bool", .free "list", .free "tuple", .free "str", .free "all", .free "zip", .free "abs", .free "range", .free "super", .int "MOST_STONES" 12, .int "MOST_LINES_mice" 6000, .int "MOST_SAID_mice" 1000000000, .int "MIDDLE" 4, .int "MOST_BOXES" 12, .int "MOST_LINES_reckoners" 6000, .int "MOST_SAID_reckoners" 1000000000, .int "MOST_STANDINGS" 20000, .str "BAR" "/", .cls "Mouse", .mkr "Mouse", .cls "Reckoner", .mkr "Reckoner", .noat "Mouse" "stones", .noat "Mouse" "lines", .noat "Reckoner" "boxes", .noat "Reckoner" "lines", .meth "Mouse" "__str__", .exm "BadNumber" "StoneError" true, .exm "BadMouse" "StoneError" true, .exm "Misfit" "StoneError" true, .exm "TooMany" "StoneError" true]
def ts : List He.Tab := [(fun K => He.ga K "FORMS", ["go", "turn", "lay", "take", "say", "wall", "here", "held", "north", "stop"]), (fun K => He.ga K "SHAPES", ["up", "copy", "step", "same", "wall", "home", "say", "stop", "fault"])]
def tf : List He.Defn := [("law", none), ("_law_bounds_right", none)]
def excs : List Str := ["BadNumber", "BadMouse", "Misfit", "TooMany"]
def formsL : List (Str × Str) := [("go", "n"), ("turn", "n"), ("lay", "spn"), ("take", "sn"), ("say", "mn"), ("wall", "ann"), ("here", "spnn"), ("held", "snn"), ("north", "nn"), ("stop", "")]
def shapesL : List (Str × Str) := [("up", "bl"), ("copy", "bbl"), ("step", "bsl"), ("same", "bbll"), ("wall", "bsll"), ("home", "bll"), ("say", "nl"), ("stop", ""), ("fault", "")]
def ex0 (K : PySem.W.Frag) : Bool := Fs.tyNames.all fun n => Fs.kitB1 K (.type n) (.ref (He.ga K "Mouse")) false
def ex1 (K : PySem.W.Frag) : Bool := Fs.kitB1 K (.ref (He.ga K "Mouse")) (.ref (He.ga K "Mouse")) true
def ex2 (K : PySem.W.Frag) : Bool := Fs.oc K (He.ga K "Mouse")
def ex3 (K : PySem.W.Frag) : Bool := Fs.kitB1 K (.ref (He.ga K "Reckoner")) (.ref (He.ga K "Reckoner")) true
def ex4 (K : PySem.W.Frag) : Bool := Fs.oc K (He.ga K "Reckoner")
def ex5 (K : PySem.W.Frag) : Bool := excs.all fun x => Fs.excCB K (He.ga K x)
def ex6 (K : PySem.W.Frag) : Bool := excs.all fun x => excs.all fun y => Fs.kitB1 K (.ref (He.ga K x)) (.ref (He.ga K y)) (x == y)
def ex7 (K : PySem.W.Frag) : Bool := excs.all fun y => Fs.kitB1 K (.type "NoneType") (.ref (He.ga K y)) false
def ex8 (K : PySem.W.Frag) : Bool := formsL.all fun p => Fs.txtB K (He.ga K "FORMS") p.1 p.2
def ex9 (K : PySem.W.Frag) : Bool := shapesL.all fun p => Fs.txtB K (He.ga K "SHAPES") p.1 p.2
def ex10 (K : PySem.W.Frag) : Bool := decide ((He.cT K ("law", none)).2 ≠ (He.cT K ("_law_bounds_right", none)).2)
def ex (K : PySem.W.Frag) : Bool := ex0 K && (ex1 K && (ex2 K && (ex3 K && (ex4 K && (ex5 K && (ex6 K && (ex7 K && (ex8 K && (ex9 K && (ex10 K))))))))))
abbrev fileF : Str := Pr.main.file
/-- what is known behind the top -/
structure Tx (w : World) (K : PySem.W.Frag) (mg : Str → Option Value) : Prop where
  ok : ∃ h : Heap, K.In h ∧ h.Ns mainGlobals mg ∧ Fs.SaysF fa fn ts es tf ex fileF w h K
section
variable {w : World} {K : PySem.W.Frag} {mg : Str → Option Value}
theorem Tx.g_is_integer (T : Tx w K mg) : mg "is_integer" = some (.ref (He.ga K "is_integer")) := by
  obtain ⟨h, KX, G, c⟩ := T.ok
  exact He.glo_ok KX G (c.t.d.fact 0 (f := .glo "is_integer") rfl)
theorem Tx.g_is_within (T : Tx w K mg) : mg "is_within" = some (.ref (He.ga K "is_within")) := by
  obtain ⟨h, KX, G, c⟩ := T.ok
  exact He.glo_ok KX G (c.t.d.fact 1 (f := .glo "is_within") rfl)
theorem Tx.g_is_side (T : Tx w K mg) : mg "is_side" = some (.ref (He.ga K "is_side")) := by
  obtain ⟨h, KX, G, c⟩ := T.ok
  exact He.glo_ok KX G (c.t.d.fact 2 (f := .glo "is_side") rfl)
theorem Tx.g_need_side (T : Tx w K mg) : mg "need_side" = some (.ref (He.ga K "need_side")) := by
  obtain ⟨h, KX, G, c⟩ := T.ok
  exact He.glo_ok KX G (c.t.d.fact 3 (f := .glo "need_side") rfl)
theorem Tx.g_most_of_mice (T : Tx w K mg) : mg "most_of_mice" = some (.ref (He.ga K "most_of_mice")) := by
  obtain ⟨h, KX, G, c⟩ := T.ok
  exact He.glo_ok KX G (c.t.d.fact 4 (f := .glo "most_of_mice") rfl)
theorem Tx.g_is_line_mice (T : Tx w K mg) : mg "is_line_mice" = some (.ref (He.ga K "is_line_mice")) := by
  obtain ⟨h, KX, G, c⟩ := T.ok
  exact He.glo_ok KX G (c.t.d.fact 5 (f := .glo "is_line_mice") rfl)
theorem Tx.g_are_lines (T : Tx w K mg) : mg "are_lines" = some (.ref (He.ga K "are_lines")) := by
  obtain ⟨h, KX, G, c⟩ := T.ok
  exact He.glo_ok KX G (c.t.d.fact 6 (f := .glo "are_lines") rfl)
theorem Tx.g_need_mouse (T : Tx w K mg) : mg "need_mouse" = some (.ref (He.ga K "need_mouse")) := by
  obtain ⟨h, KX, G, c⟩ := T.ok
  exact He.glo_ok KX G (c.t.d.fact 7 (f := .glo "need_mouse") rfl)
theorem Tx.g_most_of_reckoners (T : Tx w K mg) : mg "most_of_reckoners" = some (.ref (He.ga K "most_of_reckoners")) := by
  obtain ⟨h, KX, G, c⟩ := T.ok
  exact He.glo_ok KX G (c.t.d.fact 8 (f := .glo "most_of_reckoners") rfl)
theorem Tx.g_is_line_reckoners (T : Tx w K mg) : mg "is_line_reckoners" = some (.ref (He.ga K "is_line_reckoners")) := by
  obtain ⟨h, KX, G, c⟩ := T.ok
  exact He.glo_ok KX G (c.t.d.fact 9 (f := .glo "is_line_reckoners") rfl)
theorem Tx.g_with_stone (T : Tx w K mg) : mg "with_stone" = some (.ref (He.ga K "with_stone")) := by
  obtain ⟨h, KX, G, c⟩ := T.ok
  exact He.glo_ok KX G (c.t.d.fact 10 (f := .glo "with_stone") rfl)
theorem Tx.g_place_of (T : Tx w K mg) : mg "place_of" = some (.ref (He.ga K "place_of")) := by
  obtain ⟨h, KX, G, c⟩ := T.ok
  exact He.glo_ok KX G (c.t.d.fact 11 (f := .glo "place_of") rfl)
theorem Tx.g_does_matter (T : Tx w K mg) : mg "does_matter" = some (.ref (He.ga K "does_matter")) := by
  obtain ⟨h, KX, G, c⟩ := T.ok
  exact He.glo_ok KX G (c.t.d.fact 12 (f := .glo "does_matter") rfl)
theorem Tx.g_done_at (T : Tx w K mg) : mg "done_at" = some (.ref (He.ga K "done_at")) := by
  obtain ⟨h, KX, G, c⟩ := T.ok
  exact He.glo_ok KX G (c.t.d.fact 13 (f := .glo "done_at") rfl)
theorem Tx.g_following (T : Tx w K mg) : mg "following" = some (.ref (He.ga K "following")) := by
  obtain ⟨h, KX, G, c⟩ := T.ok
  exact He.glo_ok KX G (c.t.d.fact 14 (f := .glo "following") rfl)
theorem Tx.g_standings_in (T : Tx w K mg) : mg "standings_in" = some (.ref (He.ga K "standings_in")) := by
  obtain ⟨h, KX, G, c⟩ := T.ok
  exact He.glo_ok KX G (c.t.d.fact 15 (f := .glo "standings_in") rfl)
theorem Tx.g_line_at (T : Tx w K mg) : mg "line_at" = some (.ref (He.ga K "line_at")) := by
  obtain ⟨h, KX, G, c⟩ := T.ok
  exact He.glo_ok KX G (c.t.d.fact 16 (f := .glo "line_at") rfl)
theorem Tx.g_standings_of (T : Tx w K mg) : mg "standings_of" = some (.ref (He.ga K "standings_of")) := by
  obtain ⟨h, KX, G, c⟩ := T.ok
  exact He.glo_ok KX G (c.t.d.fact 17 (f := .glo "standings_of") rfl)
theorem Tx.g_reckoner_of (T : Tx w K mg) : mg "reckoner_of" = some (.ref (He.ga K "reckoner_of")) := by
  obtain ⟨h, KX, G, c⟩ := T.ok
  exact He.glo_ok KX G (c.t.d.fact 18 (f := .glo "reckoner_of") rfl)
theorem Tx.g__law_beadle (T : Tx w K mg) : mg "_law_beadle" = some (.ref (He.ga K "_law_beadle")) := by
  obtain ⟨h, KX, G, c⟩ := T.ok
  exact He.glo_ok KX G (c.t.d.fact 19 (f := .glo "_law_beadle") rfl)
theorem Tx.g__law_staff (T : Tx w K mg) : mg "_law_staff" = some (.ref (He.ga K "_law_staff")) := by
  obtain ⟨h, KX, G, c⟩ := T.ok
  exact He.glo_ok KX G (c.t.d.fact 20 (f := .glo "_law_staff") rfl)
theorem Tx.g__law_pick (T : Tx w K mg) : mg "_law_pick" = some (.ref (He.ga K "_law_pick")) := by
  obtain ⟨h, KX, G, c⟩ := T.ok
  exact He.glo_ok KX G (c.t.d.fact 21 (f := .glo "_law_pick") rfl)
theorem Tx.g__law_heard (T : Tx w K mg) : mg "_law_heard" = some (.ref (He.ga K "_law_heard")) := by
  obtain ⟨h, KX, G, c⟩ := T.ok
  exact He.glo_ok KX G (c.t.d.fact 22 (f := .glo "_law_heard") rfl)
theorem Tx.g__law_ring (T : Tx w K mg) : mg "_law_ring" = some (.ref (He.ga K "_law_ring")) := by
  obtain ⟨h, KX, G, c⟩ := T.ok
  exact He.glo_ok KX G (c.t.d.fact 23 (f := .glo "_law_ring") rfl)
theorem Tx.g__law_bounds_right (T : Tx w K mg) : mg "_law_bounds_right" = some (.ref (He.ga K "_law_bounds_right")) := by
  obtain ⟨h, KX, G, c⟩ := T.ok
  exact He.glo_ok KX G (c.t.d.fact 24 (f := .glo "_law_bounds_right") rfl)
theorem Tx.g_law (T : Tx w K mg) : mg "law" = some (.ref (He.ga K "law")) := by
  obtain ⟨h, KX, G, c⟩ := T.ok
  exact He.glo_ok KX G (c.t.d.fact 25 (f := .glo "law") rfl)
theorem Tx.g_BadNumber (T : Tx w K mg) : mg "BadNumber" = some (.ref (He.ga K "BadNumber")) := by
  obtain ⟨h, KX, G, c⟩ := T.ok
  exact He.glo_ok KX G (c.t.d.fact 26 (f := .glo "BadNumber") rfl)
theorem Tx.g_BadMouse (T : Tx w K mg) : mg "BadMouse" = some (.ref (He.ga K "BadMouse")) := by
  obtain ⟨h, KX, G, c⟩ := T.ok
  exact He.glo_ok KX G (c.t.d.fact 27 (f := .glo "BadMouse") rfl)
theorem Tx.g_Misfit (T : Tx w K mg) : mg "Misfit" = some (.ref (He.ga K "Misfit")) := by
  obtain ⟨h, KX, G, c⟩ := T.ok
  exact He.glo_ok KX G (c.t.d.fact 28 (f := .glo "Misfit") rfl)
theorem Tx.g_TooMany (T : Tx w K mg) : mg "TooMany" = some (.ref (He.ga K "TooMany")) := by
  obtain ⟨h, KX, G, c⟩ := T.ok
  exact He.glo_ok KX G (c.t.d.fact 29 (f := .glo "TooMany") rfl)
theorem Tx.g_StoneError (T : Tx w K mg) : mg "StoneError" = some (.ref (He.ga K "StoneError")) := by
  obtain ⟨h, KX, G, c⟩ := T.ok
  exact He.glo_ok KX G (c.t.d.fact 30 (f := .glo "StoneError") rfl)
theorem Tx.g_Mouse (T : Tx w K mg) : mg "Mouse" = some (.ref (He.ga K "Mouse")) := by
  obtain ⟨h, KX, G, c⟩ := T.ok
  exact He.glo_ok KX G (c.t.d.fact 31 (f := .glo "Mouse") rfl)
theorem Tx.g_Reckoner (T : Tx w K mg) : mg "Reckoner" = some (.ref (He.ga K "Reckoner")) := by
  obtain ⟨h, KX, G, c⟩ := T.ok
  exact He.glo_ok KX G (c.t.d.fact 32 (f := .glo "Reckoner") rfl)
theorem Tx.g_FORMS (T : Tx w K mg) : mg "FORMS" = some (.ref (He.ga K "FORMS")) := by
  obtain ⟨h, KX, G, c⟩ := T.ok
  exact He.glo_ok KX G (c.t.d.fact 33 (f := .glo "FORMS") rfl)
theorem Tx.g_SHAPES (T : Tx w K mg) : mg "SHAPES" = some (.ref (He.ga K "SHAPES")) := by
  obtain ⟨h, KX, G, c⟩ := T.ok
  exact He.glo_ok KX G (c.t.d.fact 34 (f := .glo "SHAPES") rfl)
theorem Tx.n_len (T : Tx w K mg) : mg "len" = none := by
  obtain ⟨h, KX, G, c⟩ := T.ok
  exact He.free_ok KX G (c.t.d.fact 35 (f := .free "len") rfl)
theorem Tx.n_isinstance (T : Tx w K mg) : mg "isinstance" = none := by
  obtain ⟨h, KX, G, c⟩ := T.ok
  exact He.free_ok KX G (c.t.d.fact 36 (f := .free "isinstance") rfl)
theorem Tx.n_int (T : Tx w K mg) : mg "int" = none := by
  obtain ⟨h, KX, G, c⟩ := T.ok
  exact He.free_ok KX G (c.t.d.fact 37 (f := .free "int") rfl)
theorem Tx.n_bool (T : Tx w K mg) : mg "bool" = none := by
  obtain ⟨h, KX, G, c⟩ := T.ok
  exact He.free_ok KX G (c.t.d.fact 38 (f := .free "bool") rfl)
theorem Tx.n_list (T : Tx w K mg) : mg "list" = none := by
  obtain ⟨h, KX, G, c⟩ := T.ok
  exact He.free_ok KX G (c.t.d.fact 39 (f := .free "list") rfl)
theorem Tx.n_tuple (T : Tx w K mg) : mg "tuple" = none := by
  obtain ⟨h, KX, G, c⟩ := T.ok
  exact He.free_ok KX G (c.t.d.fact 40 (f := .free "tuple") rfl)
theorem Tx.n_str (T : Tx w K mg) : mg "str" = none := by
  obtain ⟨h, KX, G, c⟩ := T.ok
  exact He.free_ok KX G (c.t.d.fact 41 (f := .free "str") rfl)
theorem Tx.n_all (T : Tx w K mg) : mg "all" = none := by
  obtain ⟨h, KX, G, c⟩ := T.ok
  exact He.free_ok KX G (c.t.d.fact 42 (f := .free "all") rfl)
theorem Tx.n_zip (T : Tx w K mg) : mg "zip" = none := by
  obtain ⟨h, KX, G, c⟩ := T.ok
  exact He.free_ok KX G (c.t.d.fact 43 (f := .free "zip") rfl)
theorem Tx.n_abs (T : Tx w K mg) : mg "abs" = none := by
  obtain ⟨h, KX, G, c⟩ := T.ok
  exact He.free_ok KX G (c.t.d.fact 44 (f := .free "abs") rfl)
theorem Tx.n_range (T : Tx w K mg) : mg "range" = none := by
  obtain ⟨h, KX, G, c⟩ := T.ok
  exact He.free_ok KX G (c.t.d.fact 45 (f := .free "range") rfl)
theorem Tx.n_super (T : Tx w K mg) : mg "super" = none := by
  obtain ⟨h, KX, G, c⟩ := T.ok
  exact He.free_ok KX G (c.t.d.fact 46 (f := .free "super") rfl)
theorem Tx.i_MOST_STONES (T : Tx w K mg) : ∃ t, mg "MOST_STONES" = some (.int 12 t) := by
  obtain ⟨h, KX, G, c⟩ := T.ok
  exact He.int_ok KX G (c.t.d.fact 47 (f := .int "MOST_STONES" 12) rfl)
theorem Tx.i_MOST_LINES_mice (T : Tx w K mg) : ∃ t, mg "MOST_LINES_mice" = some (.int 6000 t) := by
  obtain ⟨h, KX, G, c⟩ := T.ok
  exact He.int_ok KX G (c.t.d.fact 48 (f := .int "MOST_LINES_mice" 6000) rfl)
theorem Tx.i_MOST_SAID_mice (T : Tx w K mg) : ∃ t, mg "MOST_SAID_mice" = some (.int 1000000000 t) := by
  obtain ⟨h, KX, G, c⟩ := T.ok
  exact He.int_ok KX G (c.t.d.fact 49 (f := .int "MOST_SAID_mice" 1000000000) rfl)
theorem Tx.i_MIDDLE (T : Tx w K mg) : ∃ t, mg "MIDDLE" = some (.int 4 t) := by
  obtain ⟨h, KX, G, c⟩ := T.ok
  exact He.int_ok KX G (c.t.d.fact 50 (f := .int "MIDDLE" 4) rfl)
theorem Tx.i_MOST_BOXES (T : Tx w K mg) : ∃ t, mg "MOST_BOXES" = some (.int 12 t) := by
  obtain ⟨h, KX, G, c⟩ := T.ok
  exact He.int_ok KX G (c.t.d.fact 51 (f := .int "MOST_BOXES" 12) rfl)
theorem Tx.i_MOST_LINES_reckoners (T : Tx w K mg) : ∃ t, mg "MOST_LINES_reckoners" = some (.int 6000 t) := by
  obtain ⟨h, KX, G, c⟩ := T.ok
  exact He.int_ok KX G (c.t.d.fact 52 (f := .int "MOST_LINES_reckoners" 6000) rfl)
theorem Tx.i_MOST_SAID_reckoners (T : Tx w K mg) : ∃ t, mg "MOST_SAID_reckoners" = some (.int 1000000000 t) := by
  obtain ⟨h, KX, G, c⟩ := T.ok
  exact He.int_ok KX G (c.t.d.fact 53 (f := .int "MOST_SAID_reckoners" 1000000000) rfl)
theorem Tx.i_MOST_STANDINGS (T : Tx w K mg) : ∃ t, mg "MOST_STANDINGS" = some (.int 20000 t) := by
  obtain ⟨h, KX, G, c⟩ := T.ok
  exact He.int_ok KX G (c.t.d.fact 54 (f := .int "MOST_STANDINGS" 20000) rfl)
theorem Tx.s_BAR (T : Tx w K mg) : ∃ t, mg "BAR" = some (.str "/" t) := by
  obtain ⟨h, KX, G, c⟩ := T.ok
  exact He.str_ok KX G (c.t.d.fact 55 (f := .str "BAR" "/") rfl)
theorem Tx.c_Mouse (T : Tx w K mg) : Cls K (He.ga K "Mouse") := by
  obtain ⟨h, KX, G, c⟩ := T.ok
  exact He.cls_ok (c.t.d.fact 56 (f := .cls "Mouse") rfl)
theorem Tx.k_Mouse (T : Tx w K mg) : Mk K (He.ga K "Mouse") (He.ma K (He.ga K "Mouse") "__init__") := by
  obtain ⟨h, KX, G, c⟩ := T.ok
  exact He.mkr_ok (c.t.d.fact 57 (f := .mkr "Mouse") rfl)
theorem Tx.c_Reckoner (T : Tx w K mg) : Cls K (He.ga K "Reckoner") := by
  obtain ⟨h, KX, G, c⟩ := T.ok
  exact He.cls_ok (c.t.d.fact 58 (f := .cls "Reckoner") rfl)
theorem Tx.k_Reckoner (T : Tx w K mg) : Mk K (He.ga K "Reckoner") (He.ma K (He.ga K "Reckoner") "__init__") := by
  obtain ⟨h, KX, G, c⟩ := T.ok
  exact He.mkr_ok (c.t.d.fact 59 (f := .mkr "Reckoner") rfl)
theorem Tx.a_Mouse_stones (T : Tx w K mg) : NoAttr K (He.ga K "Mouse") "stones" := by
  obtain ⟨h, KX, G, c⟩ := T.ok
  exact He.noat_ok (c.t.d.fact 60 (f := .noat "Mouse" "stones") rfl)
theorem Tx.a_Mouse_lines (T : Tx w K mg) : NoAttr K (He.ga K "Mouse") "lines" := by
  obtain ⟨h, KX, G, c⟩ := T.ok
  exact He.noat_ok (c.t.d.fact 61 (f := .noat "Mouse" "lines") rfl)
theorem Tx.a_Reckoner_boxes (T : Tx w K mg) : NoAttr K (He.ga K "Reckoner") "boxes" := by
  obtain ⟨h, KX, G, c⟩ := T.ok
  exact He.noat_ok (c.t.d.fact 62 (f := .noat "Reckoner" "boxes") rfl)
theorem Tx.a_Reckoner_lines (T : Tx w K mg) : NoAttr K (He.ga K "Reckoner") "lines" := by
  obtain ⟨h, KX, G, c⟩ := T.ok
  exact He.noat_ok (c.t.d.fact 63 (f := .noat "Reckoner" "lines") rfl)
theorem Tx.m_Mouse_UstrU (T : Tx w K mg) : Meth K (He.ga K "Mouse") "__str__" (He.ma K (He.ga K "Mouse") "__str__") := by
  obtain ⟨h, KX, G, c⟩ := T.ok
  exact He.meth_ok (c.t.d.fact 64 (f := .meth "Mouse" "__str__") rfl)
theorem Tx.x_BadNumber_StoneError (T : Tx w K mg) : PySem.W.exmOne K (.ref (He.ga K "BadNumber")) (.ref (He.ga K "StoneError")) = some true := by
  obtain ⟨h, KX, G, c⟩ := T.ok
  exact He.exm_ok (c.t.d.fact 65 (f := .exm "BadNumber" "StoneError" true) rfl)
theorem Tx.x_BadMouse_StoneError (T : Tx w K mg) : PySem.W.exmOne K (.ref (He.ga K "BadMouse")) (.ref (He.ga K "StoneError")) = some true := by
  obtain ⟨h, KX, G, c⟩ := T.ok
  exact He.exm_ok (c.t.d.fact 66 (f := .exm "BadMouse" "StoneError" true) rfl)
theorem Tx.x_Misfit_StoneError (T : Tx w K mg) : PySem.W.exmOne K (.ref (He.ga K "Misfit")) (.ref (He.ga K "StoneError")) = some true := by
  obtain ⟨h, KX, G, c⟩ := T.ok
  exact He.exm_ok (c.t.d.fact 67 (f := .exm "Misfit" "StoneError" true) rfl)
theorem Tx.x_TooMany_StoneError (T : Tx w K mg) : PySem.W.exmOne K (.ref (He.ga K "TooMany")) (.ref (He.ga K "StoneError")) = some true := by
  obtain ⟨h, KX, G, c⟩ := T.ok
  exact He.exm_ok (c.t.d.fact 68 (f := .exm "TooMany" "StoneError" true) rfl)
theorem Tx.F_is_integer (T : Tx w K mg) : ∃ fd, FunD K d_is_integer.name d_is_integer.qual (defArgs s_is_integer) (defBody s_is_integer) (defScope s_is_integer) (d_is_integer.dvs K) (d_is_integer.kws K) (He.fAd K d_is_integer.at_) fd := by
  obtain ⟨h, KX, G, c⟩ := T.ok
  exact c.t.d.def_ 0 (d := d_is_integer) rfl
theorem Tx.F_is_within (T : Tx w K mg) : ∃ fd, FunD K d_is_within.name d_is_within.qual (defArgs s_is_within) (defBody s_is_within) (defScope s_is_within) (d_is_within.dvs K) (d_is_within.kws K) (He.fAd K d_is_within.at_) fd := by
  obtain ⟨h, KX, G, c⟩ := T.ok
  exact c.t.d.def_ 1 (d := d_is_within) rfl
theorem Tx.F_is_side (T : Tx w K mg) : ∃ fd, FunD K d_is_side.name d_is_side.qual (defArgs s_is_side) (defBody s_is_side) (defScope s_is_side) (d_is_side.dvs K) (d_is_side.kws K) (He.fAd K d_is_side.at_) fd := by
  obtain ⟨h, KX, G, c⟩ := T.ok
  exact c.t.d.def_ 2 (d := d_is_side) rfl
theorem Tx.F_need_side (T : Tx w K mg) : ∃ fd, FunD K d_need_side.name d_need_side.qual (defArgs s_need_side) (defBody s_need_side) (defScope s_need_side) (d_need_side.dvs K) (d_need_side.kws K) (He.fAd K d_need_side.at_) fd := by
  obtain ⟨h, KX, G, c⟩ := T.ok
  exact c.t.d.def_ 3 (d := d_need_side) rfl
theorem Tx.F_most_of_mice (T : Tx w K mg) : ∃ fd, FunD K d_most_of_mice.name d_most_of_mice.qual (defArgs s_most_of_mice) (defBody s_most_of_mice) (defScope s_most_of_mice) (d_most_of_mice.dvs K) (d_most_of_mice.kws K) (He.fAd K d_most_of_mice.at_) fd := by
  obtain ⟨h, KX, G, c⟩ := T.ok
  exact c.t.d.def_ 4 (d := d_most_of_mice) rfl
theorem Tx.F_is_line_mice (T : Tx w K mg) : ∃ fd, FunD K d_is_line_mice.name d_is_line_mice.qual (defArgs s_is_line_mice) (defBody s_is_line_mice) (defScope s_is_line_mice) (d_is_line_mice.dvs K) (d_is_line_mice.kws K) (He.fAd K d_is_line_mice.at_) fd := by
  obtain ⟨h, KX, G, c⟩ := T.ok
  exact c.t.d.def_ 5 (d := d_is_line_mice) rfl
theorem Tx.F_are_lines (T : Tx w K mg) : ∃ fd, FunD K d_are_lines.name d_are_lines.qual (defArgs s_are_lines) (defBody s_are_lines) (defScope s_are_lines) (d_are_lines.dvs K) (d_are_lines.kws K) (He.fAd K d_are_lines.at_) fd := by
  obtain ⟨h, KX, G, c⟩ := T.ok
  exact c.t.d.def_ 6 (d := d_are_lines) rfl
theorem Tx.F_MouseU_initU (T : Tx w K mg) : ∃ fd, FunD K d_MouseU_initU.name d_MouseU_initU.qual (defArgs s_MouseU_initU) (defBody s_MouseU_initU) (defScope s_MouseU_initU) (d_MouseU_initU.dvs K) (d_MouseU_initU.kws K) (He.fAd K d_MouseU_initU.at_) fd := by
  obtain ⟨h, KX, G, c⟩ := T.ok
  exact c.t.d.def_ 7 (d := d_MouseU_initU) rfl
theorem Tx.F_MouseU_strU (T : Tx w K mg) : ∃ fd, FunD K d_MouseU_strU.name d_MouseU_strU.qual (defArgs s_MouseU_strU) (defBody s_MouseU_strU) (defScope s_MouseU_strU) (d_MouseU_strU.dvs K) (d_MouseU_strU.kws K) (He.fAd K d_MouseU_strU.at_) fd := by
  obtain ⟨h, KX, G, c⟩ := T.ok
  exact c.t.d.def_ 8 (d := d_MouseU_strU) rfl
theorem Tx.F_need_mouse (T : Tx w K mg) : ∃ fd, FunD K d_need_mouse.name d_need_mouse.qual (defArgs s_need_mouse) (defBody s_need_mouse) (defScope s_need_mouse) (d_need_mouse.dvs K) (d_need_mouse.kws K) (He.fAd K d_need_mouse.at_) fd := by
  obtain ⟨h, KX, G, c⟩ := T.ok
  exact c.t.d.def_ 9 (d := d_need_mouse) rfl
theorem Tx.F_most_of_reckoners (T : Tx w K mg) : ∃ fd, FunD K d_most_of_reckoners.name d_most_of_reckoners.qual (defArgs s_most_of_reckoners) (defBody s_most_of_reckoners) (defScope s_most_of_reckoners) (d_most_of_reckoners.dvs K) (d_most_of_reckoners.kws K) (He.fAd K d_most_of_reckoners.at_) fd := by
  obtain ⟨h, KX, G, c⟩ := T.ok
  exact c.t.d.def_ 10 (d := d_most_of_reckoners) rfl
theorem Tx.F_is_line_reckoners (T : Tx w K mg) : ∃ fd, FunD K d_is_line_reckoners.name d_is_line_reckoners.qual (defArgs s_is_line_reckoners) (defBody s_is_line_reckoners) (defScope s_is_line_reckoners) (d_is_line_reckoners.dvs K) (d_is_line_reckoners.kws K) (He.fAd K d_is_line_reckoners.at_) fd := by
  obtain ⟨h, KX, G, c⟩ := T.ok
  exact c.t.d.def_ 11 (d := d_is_line_reckoners) rfl
theorem Tx.F_ReckonerU_initU (T : Tx w K mg) : ∃ fd, FunD K d_ReckonerU_initU.name d_ReckonerU_initU.qual (defArgs s_ReckonerU_initU) (defBody s_ReckonerU_initU) (defScope s_ReckonerU_initU) (d_ReckonerU_initU.dvs K) (d_ReckonerU_initU.kws K) (He.fAd K d_ReckonerU_initU.at_) fd := by
  obtain ⟨h, KX, G, c⟩ := T.ok
  exact c.t.d.def_ 12 (d := d_ReckonerU_initU) rfl
theorem Tx.F_with_stone (T : Tx w K mg) : ∃ fd, FunD K d_with_stone.name d_with_stone.qual (defArgs s_with_stone) (defBody s_with_stone) (defScope s_with_stone) (d_with_stone.dvs K) (d_with_stone.kws K) (He.fAd K d_with_stone.at_) fd := by
  obtain ⟨h, KX, G, c⟩ := T.ok
  exact c.t.d.def_ 13 (d := d_with_stone) rfl
theorem Tx.F_place_of (T : Tx w K mg) : ∃ fd, FunD K d_place_of.name d_place_of.qual (defArgs s_place_of) (defBody s_place_of) (defScope s_place_of) (d_place_of.dvs K) (d_place_of.kws K) (He.fAd K d_place_of.at_) fd := by
  obtain ⟨h, KX, G, c⟩ := T.ok
  exact c.t.d.def_ 14 (d := d_place_of) rfl
theorem Tx.F_does_matter (T : Tx w K mg) : ∃ fd, FunD K d_does_matter.name d_does_matter.qual (defArgs s_does_matter) (defBody s_does_matter) (defScope s_does_matter) (d_does_matter.dvs K) (d_does_matter.kws K) (He.fAd K d_does_matter.at_) fd := by
  obtain ⟨h, KX, G, c⟩ := T.ok
  exact c.t.d.def_ 15 (d := d_does_matter) rfl
theorem Tx.F_done_at (T : Tx w K mg) : ∃ fd, FunD K d_done_at.name d_done_at.qual (defArgs s_done_at) (defBody s_done_at) (defScope s_done_at) (d_done_at.dvs K) (d_done_at.kws K) (He.fAd K d_done_at.at_) fd := by
  obtain ⟨h, KX, G, c⟩ := T.ok
  exact c.t.d.def_ 16 (d := d_done_at) rfl
theorem Tx.F_following (T : Tx w K mg) : ∃ fd, FunD K d_following.name d_following.qual (defArgs s_following) (defBody s_following) (defScope s_following) (d_following.dvs K) (d_following.kws K) (He.fAd K d_following.at_) fd := by
  obtain ⟨h, KX, G, c⟩ := T.ok
  exact c.t.d.def_ 17 (d := d_following) rfl
theorem Tx.F_standings_in (T : Tx w K mg) : ∃ fd, FunD K d_standings_in.name d_standings_in.qual (defArgs s_standings_in) (defBody s_standings_in) (defScope s_standings_in) (d_standings_in.dvs K) (d_standings_in.kws K) (He.fAd K d_standings_in.at_) fd := by
  obtain ⟨h, KX, G, c⟩ := T.ok
  exact c.t.d.def_ 18 (d := d_standings_in) rfl
theorem Tx.F_line_at (T : Tx w K mg) : ∃ fd, FunD K d_line_at.name d_line_at.qual (defArgs s_line_at) (defBody s_line_at) (defScope s_line_at) (d_line_at.dvs K) (d_line_at.kws K) (He.fAd K d_line_at.at_) fd := by
  obtain ⟨h, KX, G, c⟩ := T.ok
  exact c.t.d.def_ 19 (d := d_line_at) rfl
theorem Tx.F_standings_of (T : Tx w K mg) : ∃ fd, FunD K d_standings_of.name d_standings_of.qual (defArgs s_standings_of) (defBody s_standings_of) (defScope s_standings_of) (d_standings_of.dvs K) (d_standings_of.kws K) (He.fAd K d_standings_of.at_) fd := by
  obtain ⟨h, KX, G, c⟩ := T.ok
  exact c.t.d.def_ 20 (d := d_standings_of) rfl
theorem Tx.F_reckoner_of (T : Tx w K mg) : ∃ fd, FunD K d_reckoner_of.name d_reckoner_of.qual (defArgs s_reckoner_of) (defBody s_reckoner_of) (defScope s_reckoner_of) (d_reckoner_of.dvs K) (d_reckoner_of.kws K) (He.fAd K d_reckoner_of.at_) fd := by
  obtain ⟨h, KX, G, c⟩ := T.ok
  exact c.t.d.def_ 21 (d := d_reckoner_of) rfl
theorem Tx.F__law_beadle (T : Tx w K mg) : ∃ fd, FunD K d__law_beadle.name d__law_beadle.qual (defArgs s__law_beadle) (defBody s__law_beadle) (defScope s__law_beadle) (d__law_beadle.dvs K) (d__law_beadle.kws K) (He.fAd K d__law_beadle.at_) fd := by
  obtain ⟨h, KX, G, c⟩ := T.ok
  exact c.t.d.def_ 22 (d := d__law_beadle) rfl
theorem Tx.F__law_staff (T : Tx w K mg) : ∃ fd, FunD K d__law_staff.name d__law_staff.qual (defArgs s__law_staff) (defBody s__law_staff) (defScope s__law_staff) (d__law_staff.dvs K) (d__law_staff.kws K) (He.fAd K d__law_staff.at_) fd := by
  obtain ⟨h, KX, G, c⟩ := T.ok
  exact c.t.d.def_ 23 (d := d__law_staff) rfl
theorem Tx.F__law_pick (T : Tx w K mg) : ∃ fd, FunD K d__law_pick.name d__law_pick.qual (defArgs s__law_pick) (defBody s__law_pick) (defScope s__law_pick) (d__law_pick.dvs K) (d__law_pick.kws K) (He.fAd K d__law_pick.at_) fd := by
  obtain ⟨h, KX, G, c⟩ := T.ok
  exact c.t.d.def_ 24 (d := d__law_pick) rfl
theorem Tx.F__law_heard (T : Tx w K mg) : ∃ fd, FunD K d__law_heard.name d__law_heard.qual (defArgs s__law_heard) (defBody s__law_heard) (defScope s__law_heard) (d__law_heard.dvs K) (d__law_heard.kws K) (He.fAd K d__law_heard.at_) fd := by
  obtain ⟨h, KX, G, c⟩ := T.ok
  exact c.t.d.def_ 25 (d := d__law_heard) rfl
theorem Tx.F__law_ring (T : Tx w K mg) : ∃ fd, FunD K d__law_ring.name d__law_ring.qual (defArgs s__law_ring) (defBody s__law_ring) (defScope s__law_ring) (d__law_ring.dvs K) (d__law_ring.kws K) (He.fAd K d__law_ring.at_) fd := by
  obtain ⟨h, KX, G, c⟩ := T.ok
  exact c.t.d.def_ 26 (d := d__law_ring) rfl
theorem Tx.F__law_bounds_right (T : Tx w K mg) : ∃ fd, FunD K d__law_bounds_right.name d__law_bounds_right.qual (defArgs s__law_bounds_right) (defBody s__law_bounds_right) (defScope s__law_bounds_right) (d__law_bounds_right.dvs K) (d__law_bounds_right.kws K) (He.fAd K d__law_bounds_right.at_) fd := by
  obtain ⟨h, KX, G, c⟩ := T.ok
  exact c.t.d.def_ 27 (d := d__law_bounds_right) rfl
theorem Tx.F_law (T : Tx w K mg) : ∃ fd, FunD K d_law.name d_law.qual (defArgs s_law) (defBody s_law) (defScope s_law) (d_law.dvs K) (d_law.kws K) (He.fAd K d_law.at_) fd := by
  obtain ⟨h, KX, G, c⟩ := T.ok
  exact c.t.d.def_ 28 (d := d_law) rfl
theorem Tx.e_BadNumber (T : Tx w K mg) : Fs.ExcF Pr K e_BadNumber := by
  obtain ⟨h, KX, G, c⟩ := T.ok
  exact c.excs (prog := Pr) (by decide +kernel) (List.mem_of_getElem? (i := 0) rfl)
theorem Tx.e_BadMouse (T : Tx w K mg) : Fs.ExcF Pr K e_BadMouse := by
  obtain ⟨h, KX, G, c⟩ := T.ok
  exact c.excs (prog := Pr) (by decide +kernel) (List.mem_of_getElem? (i := 1) rfl)
theorem Tx.e_Misfit (T : Tx w K mg) : Fs.ExcF Pr K e_Misfit := by
  obtain ⟨h, KX, G, c⟩ := T.ok
  exact c.excs (prog := Pr) (by decide +kernel) (List.mem_of_getElem? (i := 2) rfl)
theorem Tx.e_TooMany (T : Tx w K mg) : Fs.ExcF Pr K e_TooMany := by
  obtain ⟨h, KX, G, c⟩ := T.ok
  exact c.excs (prog := Pr) (by decide +kernel) (List.mem_of_getElem? (i := 3) rfl)
theorem Tx.t_FORMS (T : Tx w K mg) : ∃ es n, KDict K w (He.ga K "FORMS") es n := by
  obtain ⟨h, KX, G, c⟩ := T.ok
  exact c.t.tab 0 (t := (fun K => He.ga K "FORMS", ["go", "turn", "lay", "take", "say", "wall", "here", "held", "north", "stop"])) rfl
theorem Tx.t_SHAPES (T : Tx w K mg) : ∃ es n, KDict K w (He.ga K "SHAPES") es n := by
  obtain ⟨h, KX, G, c⟩ := T.ok
  exact c.t.tab 1 (t := (fun K => He.ga K "SHAPES", ["up", "copy", "step", "same", "wall", "home", "say", "stop", "fault"])) rfl
theorem Tx.more (T : Tx w K mg) : ex K = true := by
  obtain ⟨h, KX, G, c⟩ := T.ok
  exact c.more
theorem Tx.ex0 (T : Tx w K mg) : ex0 K = true := by
  have h := T.more
  unfold ex at h
  simp only [Bool.and_eq_true] at h
  obtain ⟨h0, h1, h2, h3, h4, h5, h6, h7, h8, h9, h10⟩ := h
  exact h0
theorem Tx.ex1 (T : Tx w K mg) : ex1 K = true := by
  have h := T.more
  unfold ex at h
  simp only [Bool.and_eq_true] at h
  obtain ⟨h0, h1, h2, h3, h4, h5, h6, h7, h8, h9, h10⟩ := h
  exact h1
theorem Tx.ex2 (T : Tx w K mg) : ex2 K = true := by
  have h := T.more
  unfold ex at h
  simp only [Bool.and_eq_true] at h
  obtain ⟨h0, h1, h2, h3, h4, h5, h6, h7, h8, h9, h10⟩ := h
  exact h2
theorem Tx.ex3 (T : Tx w K mg) : ex3 K = true := by
  have h := T.more
  unfold ex at h
  simp only [Bool.and_eq_true] at h
  obtain ⟨h0, h1, h2, h3, h4, h5, h6, h7, h8, h9, h10⟩ := h
  exact h3
theorem Tx.ex4 (T : Tx w K mg) : ex4 K = true := by
  have h := T.more
  unfold ex at h
  simp only [Bool.and_eq_true] at h
  obtain ⟨h0, h1, h2, h3, h4, h5, h6, h7, h8, h9, h10⟩ := h
  exact h4
theorem Tx.ex5 (T : Tx w K mg) : ex5 K = true := by
  have h := T.more
  unfold ex at h
  simp only [Bool.and_eq_true] at h
  obtain ⟨h0, h1, h2, h3, h4, h5, h6, h7, h8, h9, h10⟩ := h
  exact h5
theorem Tx.ex6 (T : Tx w K mg) : ex6 K = true := by
  have h := T.more
  unfold ex at h
  simp only [Bool.and_eq_true] at h
  obtain ⟨h0, h1, h2, h3, h4, h5, h6, h7, h8, h9, h10⟩ := h
  exact h6
theorem Tx.ex7 (T : Tx w K mg) : ex7 K = true := by
  have h := T.more
  unfold ex at h
  simp only [Bool.and_eq_true] at h
  obtain ⟨h0, h1, h2, h3, h4, h5, h6, h7, h8, h9, h10⟩ := h
  exact h7
theorem Tx.ex8 (T : Tx w K mg) : ex8 K = true := by
  have h := T.more
  unfold ex at h
  simp only [Bool.and_eq_true] at h
  obtain ⟨h0, h1, h2, h3, h4, h5, h6, h7, h8, h9, h10⟩ := h
  exact h8
theorem Tx.ex9 (T : Tx w K mg) : ex9 K = true := by
  have h := T.more
  unfold ex at h
  simp only [Bool.and_eq_true] at h
  obtain ⟨h0, h1, h2, h3, h4, h5, h6, h7, h8, h9, h10⟩ := h
  exact h9
theorem Tx.ex10 (T : Tx w K mg) : ex10 K = true := by
  have h := T.more
  unfold ex at h
  simp only [Bool.and_eq_true] at h
  obtain ⟨h0, h1, h2, h3, h4, h5, h6, h7, h8, h9, h10⟩ := h
  exact h10
end
end K72

set_option Elab.async false
set_option linter.all false
set_option maxRecDepth 100000
set_option maxHeartbeats 0
namespace K72
open PySem PySem.Spec PyProof.Rows L2
abbrev R : PySem.W.OpenRow := PySem.W.OpenLaw.row PySem.Challenge.rw_fourstones_k72_leading_back_refused
abbrev hk : PySem.W.Hook := Fs.hookF 6 fa fn ts es tf ex fileF
def ob (s : PySem.W.SharedT) : Fs.AlF := Fs.obsF 6 fa fn ts es tf ex fileF (HandSHeadRun.getT s)
theorem ob_eq (s : PySem.W.SharedT) : ob s = hk.obs s.abs := Fs.obsF_eq (HandSHeadRun.getT_eq s)
def loose : List Str := (["_wall", "__name__", "StoneError", "BadNumber", "BadMouse", "BadReckoner", "Misfit", "TooMany", "BadText", "is_integer", "is_within", "is_side", "need_side", "BAR", "FIGURES", "MOST_FIGURES", "written", "Scan", "MOST_STONES", "MOST_LINES_mice", "MOST_SAID_mice", "MIDDLE", "FORMS", "most_of", "most_of_mice", "is_line", "is_line_mice", "are_lines", "Mouse", "taken_line"] : List Str) ++ (["taken_line_mice", "need_mouse", "MOST_BOXES", "MOST_LINES_reckoners", "MOST_SAID_reckoners", "SHAPES", "most_of_reckoners", "is_line_reckoners", "aims_of", "taken_line_reckoners", "Reckoner", "MOST_STANDINGS", "with_stone", "place_of", "does_matter", "done_at", "following", "standings_in", "line_at", "standings_of", "reckoner_of", "_law_beadle", "_law_staff", "_law_pick", "_law_heard", "_law_ring", "_law_bounds_right"] : List Str)
theorem run_no (w : World) : HandSHeadRun.RunEq R (PySem.W.view R.prog [66]) hk ob 6000 loose (w.withFollow "special-get-raises" false) := by
  intro os
  kernel_rfl
theorem run_yes (w : World) : HandSHeadRun.RunEq R (PySem.W.view R.prog [66]) hk ob 6000 loose (w.withFollow "special-get-raises" true) := by
  intro os
  kernel_rfl
theorem run (w : World) : HandSHeadRun.RunEq R (PySem.W.view R.prog [66]) hk ob 6000 loose w := PySem.W.byRow2 "special-get-raises" (P := fun w => HandSHeadRun.RunEq R (PySem.W.view R.prog [66]) hk ob 6000 loose w) run_no run_yes w
end K72

set_option Elab.async false
set_option linter.all false
set_option maxRecDepth 100000
set_option maxHeartbeats 4000000
namespace K72
open PySem PySem.Spec PyProof.Rows L2 Fs
variable {w : World} {K : PySem.W.Frag} {mg : Str → Option Value} {base : Heap}

abbrev FnP (K : PySem.W.Frag) (d : He.DefD) (fd : FuncData) : Prop := FunD K d.name d.qual d.params d.body d.scope (d.dvs K) (d.kws K) (He.fAd K d.at_) fd
theorem iteB {c : Bool} {A B : Prop} (h1 : c = true → A) (h0 : c = false → B) : if c = true then A else B := by
  cases c
  · exact iteF (h0 rfl)
  · exact iteT (h1 rfl)
def tys : List String := ["int", "bool", "str", "NoneType", "list", "tuple", "dict"]
theorem kit_int {n : String} (h : n ∈ tys) : ∃ b1 b2, kitB n "int" = some b1 ∧ kitB n "bool" = some b2 ∧ (b1 && !b2) = decide (n = "int") := by
  have h' : n = "int" ∨ n = "bool" ∨ n = "str" ∨ n = "NoneType" ∨ n = "list" ∨ n = "tuple" ∨ n = "dict" := by simpa [tys] using h
  rcases h' with h | h | h | h | h | h | h <;> subst h
  · exact ⟨true, false, by decide +kernel, by decide +kernel, by decide⟩
  · exact ⟨true, true, by decide +kernel, by decide +kernel, by decide⟩
  · exact ⟨false, false, by decide +kernel, by decide +kernel, by decide⟩
  · exact ⟨false, false, by decide +kernel, by decide +kernel, by decide⟩
  · exact ⟨false, false, by decide +kernel, by decide +kernel, by decide⟩
  · exact ⟨false, false, by decide +kernel, by decide +kernel, by decide⟩
  · exact ⟨false, false, by decide +kernel, by decide +kernel, by decide⟩

/-! ### is_integer -/
def spInt (K : PySem.W.Frag) : Sp := fun vs H Q _ => ∃ x n, vs = [x] ∧ TyX K H x (.type n) ∧ n ∈ tys ∧ Q (.bl (decide (n = "int"))) H
theorem ok_int (T : Tx w K mg) : ∃ fd, FnP K d_is_integer fd ∧ FnOk Pr w K mg base CX0 1 (He.fAd K d_is_integer.at_) fd ["value"] (spInt K) := by
  obtain ⟨fd, F⟩ := T.F_is_integer
  refine ⟨fd, F, F.ok sc_is_integer (fun vs H Q E h => ?_) fun cdv A outer s H vs Q E hr h => ?_⟩
  · obtain ⟨x, n, rfl, _⟩ := h; rfl
  refine ⟨_, PSs.nox (pss_one (ps_ret (pe_and (pe_callB call_isi rfl T.n_isinstance (by decide +kernel) (pa_cons (pv 0) (pa_cons (pe_bltn (v := .ty "int") rfl T.n_int (by decide +kernel) rfl) pa_nil)))
    (pe_one (pe_not (pe_callB call_isi rfl T.n_isinstance (by decide +kernel) (pa_cons (pv 0) (pa_cons (pe_bltn (v := .ty "bool") rfl T.n_bool (by decide +kernel) rfl) pa_nil)))))))), ?_⟩
  obtain ⟨x, n, rfl, ty, hn, q⟩ := h
  obtain ⟨b1, b2, k1, k2, e⟩ := kit_int hn
  refine ⟨x, rfl, x, .ty "int", .type n, .type "int", b1, rfl, .ty _, ty, kit_ty k1, b1, rfl, ?_⟩
  cases b1 with
  | true =>
    refine ⟨x, rfl, x, .ty "bool", .type n, .type "bool", b2, rfl, .ty _, ty, kit_ty k2, b2, rfl, ?_⟩
    rw [Bool.true_and] at e
    rw [e]
    exact q
  | false =>
    rw [Bool.false_and] at e
    rw [← e] at q
    exact q

/-! ### is_within -/
def spWithin (K : PySem.W.Frag) : Sp := fun vs H Q _ => ∃ x lo hi, vs = [x, .int lo, .int hi] ∧ ((∃ n, TyX K H x (.type n) ∧ n ∈ tys ∧ n ≠ "int" ∧ Q (.bl false) H) ∨ ∃ i, x = .int i ∧ Q (.bl (decide (lo ≤ i) && decide (i ≤ hi))) H)
theorem ok_within (T : Tx w K mg) : ∃ fd, FnP K d_is_within fd ∧ FnOk Pr w K mg base CX0 2 (He.fAd K d_is_within.at_) fd ["value", "least", "most"] (spWithin K) := by
  obtain ⟨fd, F⟩ := T.F_is_within
  obtain ⟨fdI, FI, GI⟩ := ok_int (base := base) T
  have bI : Binds K fdI ["value"] [] := FI.bindsN fun _ _ _ _ _ _ us hl => match us, hl with | [_], _ => rfl
  refine ⟨fd, F, F.ok sc_is_within (fun vs H Q E h => ?_) fun cdv A outer s H vs Q E hr h => ?_⟩
  · obtain ⟨x, lo, hi, rfl, _⟩ := h; rfl
  refine ⟨_, PSs.nox (pss_cons (ps_if (pt_not (pt_val (pe_call GI hr rfl T.g_is_integer FI.kp bI .nil pass0 (pa_cons (pv 0) pa_nil)))) (pss_one (ps_ret pe_bl)) pss_nil)
    (pss_one (ps_ret (pe_and (pe_or (pe_cmp (pc_isN (pv 1)) rfl) (pe_one (pe_cmp (pc_le (pv 1) (pv 0)) rfl))) (pe_one (pe_or (pe_cmp (pc_isN (pv 2)) rfl) (pe_one (pe_cmp (pc_le (pv 0) (pv 2)) rfl)))))))), ?_⟩
  obtain ⟨x, lo, hi, rfl, h⟩ := h
  rcases h with ⟨n, ty, hn, ne, q⟩ | ⟨i, rfl, q⟩
  · refine ⟨x, rfl, x, n, rfl, ty, hn, _, rfl, ?_⟩
    rw [decide_eq_false ne]
    exact q
  · refine ⟨_, rfl, _, "int", rfl, .base (.int i), by simp [tys], _, rfl, ?_⟩
    have n1 : decide (V.int lo = V.non) = false := decide_eq_false (by simp)
    have n2 : decide (V.int hi = V.non) = false := decide_eq_false (by simp)
    refine ⟨_, rfl, _, rfl, ?_⟩
    rw [n1]
    refine ⟨_, rfl, _, rfl, lo, i, rfl, rfl, _, rfl, ?_⟩
    refine iteB (fun h => ?_) fun h => ?_
    · have h1 : lo ≤ i := of_decide_eq_true h
      rw [decide_eq_true h1, Bool.true_and] at q
      refine ⟨_, rfl, _, rfl, ?_⟩
      rw [n2]
      exact ⟨_, rfl, _, rfl, i, hi, rfl, rfl, q⟩
    · have h1 : ¬ lo ≤ i := of_decide_eq_false h
      rw [decide_eq_false h1, Bool.false_and] at q
      exact q
/-! ### is_side -/
def sideOk (x : V) : Bool := match x with
  | .int i => decide (0 ≤ i) && decide (i ≤ 3)
  | _ => false
def spSide (K : PySem.W.Frag) : Sp := fun vs H Q _ => ∃ x, vs = [x] ∧ ((∃ i, x = .int i) ∨ ∃ n, TyX K H x (.type n) ∧ n ∈ tys ∧ n ≠ "int") ∧ (∀ b, b = sideOk x → Q (.bl b) H)
theorem tyx_int {H : Hp} {i : Int} {n : String} (t : TyX K H (.int i) (.type n)) : n = "int" := by
  cases t with
  | base b => cases b; rfl
theorem ok_side (T : Tx w K mg) : ∃ fd, FnP K d_is_side fd ∧ FnOk Pr w K mg base CX0 3 (He.fAd K d_is_side.at_) fd ["value"] (spSide K) := by
  obtain ⟨fd, F⟩ := T.F_is_side
  obtain ⟨fdI, FI, GI⟩ := ok_within (base := base) T
  have bI : Binds K fdI ["value", "least", "most"] [] := FI.bindsN fun _ _ _ _ _ _ us hl => match us, hl with | [_, _, _], _ => rfl
  refine ⟨fd, F, F.ok sc_is_side (fun vs H Q E h => ?_) fun cdv A outer s H vs Q E hr h => ?_⟩
  · obtain ⟨x, rfl, _⟩ := h; rfl
  refine ⟨_, PSs.nox (pss_one (ps_ret (pe_call GI hr rfl T.g_is_within FI.kp bI .nil pass0 (pa_cons (pv 0) (pa_cons pe_int (pa_cons pe_int pa_nil)))))), ?_⟩
  obtain ⟨x, rfl, h, q⟩ := h
  refine ⟨x, rfl, x, 0, 3, rfl, ?_⟩
  rcases h with ⟨i, rfl⟩ | ⟨n, ty, hn, ne⟩
  · exact .inr ⟨i, rfl, q _ rfl⟩
  · refine .inl ⟨n, ty, hn, ne, q false ?_⟩
    cases x with
    | int i => exact absurd (tyx_int ty) ne
    | _ => rfl
/-! ### need_side -/
/-- what an exception leaves: its class, its fields, all else as it stood -/
def Raised (H : Hp) (E : XK) (C : Addr) (fs : List (Str × V)) : Prop := ∀ d H', Ex H H' → H' d = some (.xd fs) → E (.ref C) (some d) H'
theorem raised_new {H : Hp} {E : XK} {C : Addr} {fs : List (Str × V)} (h : Raised H E C fs) : ∀ d, H d = none → E (.ref C) (some d) (upd H d (.xd fs)) := fun d n => h d _ (Ex.new n) upd_same
def spNeedSide (K : PySem.W.Frag) : Sp := fun vs H Q E => ∃ x p, vs = [x, .str p] ∧ ((∃ i, x = .int i) ∨ ∃ n, TyX K H x (.type n) ∧ n ∈ tys ∧ n ≠ "int") ∧ (sideOk x = true → Q .non H) ∧ (sideOk x = false → Raised H E (He.ga K "BadNumber") [("part", .str p)])
theorem ok_needSide (T : Tx w K mg) : ∃ fd, FnP K d_need_side fd ∧ FnOk Pr w K mg base (L2.CX Pr w) 4 (He.fAd K d_need_side.at_) fd ["value", "part"] (spNeedSide K) := by
  obtain ⟨fd, F⟩ := T.F_need_side
  obtain ⟨fdI, FI, GI⟩ := ok_side (base := base) T
  have bI : Binds K fdI ["value"] [] := FI.bindsN fun _ _ _ _ _ _ us hl => match us, hl with | [_], _ => rfl
  have X := T.e_BadNumber
  obtain ⟨oc, od, osl, kV, doc, pm, an, ct, lk⟩ := X.lk
  refine ⟨fd, F, F.ok sc_need_side (fun vs H Q E h => ?_) fun cdv A outer s H vs Q E hr h => ?_⟩
  · obtain ⟨x, p, rfl, _⟩ := h; rfl
  have F1 := fn_e1 (CX := CX0) (w := w) (mg := mg) (base := base) (k := 0) X.sup sx_BadNumber (X.noat "part" (by simp [e_BadNumber])) lk X.code rfl rfl rfl rfl (fun _ => rfl) T.n_super
  have tk : Takes (cxOf (L2.CX Pr w) Pr w K mg base N_need_side d_need_side.qual d_need_side.scope (He.fAd K d_need_side.at_) cdv A outer s H E) (fun cls d _ H => E cls d H) := takes_of rfl rfl rfl rfl
  have bE : Binds K _ ["self", "part"] [] := .all (fd := PySem.W.fnX "__init__" e_BadNumber.qual e_BadNumber.params e_BadNumber.body e_BadNumber.scope [("__class__", ccOf K (He.ma K (He.ga K e_BadNumber.cls) "__init__"))] .none kV doc pm an (.ref (cdOf K (He.ma K (He.ga K e_BadNumber.cls) "__init__"))) ct) fun us hl => match us, hl with | [_, _], _ => rfl
  refine ⟨_, pss_one (ps_if (pt_not (pt_val (pe_call GI (hr.mono (by decide)) rfl T.g_is_side FI.kp bI .nil pass0 (pa_cons (pv 0) pa_nil)))) (pss_one (ps_raise rfl tk (pmk_oex X.sup.own X.init X.ty F1 (hr.mono (by decide)) bE .nil (fun _ _ _ _ _ _ _ z => z.elim) rfl T.g_BadNumber (pa_cons (pv 1) pa_nil)))) pss_nil), ?_⟩
  obtain ⟨x, p, rfl, h, q1, q2⟩ := h
  refine ⟨x, rfl, x, rfl, h, fun b hb => ⟨b, rfl, ?_⟩⟩
  subst hb
  refine iteB (fun e => ?_) fun e => ?_
  · have e2 : sideOk x = false := by simpa using e
    exact ⟨_, rfl, by simp, mk_e1 (raised_new (q2 e2))⟩
  · have e2 : sideOk x = true := by simpa using e
    exact q1 e2
end K72

set_option Elab.async false
set_option linter.all false
set_option maxRecDepth 100000
set_option maxHeartbeats 4000000
namespace K72
open PySem PySem.Spec PyProof.Rows L2 Fs
variable {w : World} {K : PySem.W.Frag} {mg : Str → Option Value} {base : Heap}

theorem pe_gint {X : Cx} {x : Str} {i : Int} {t : Tok} {pos : Pos} (hg : Gl X x) (hm : X.mg x = some (.int i t)) (hd : (x == ("__debug__" : Str)) = false := by decide) : PE X (.Name x pos) (tC (.int i)) := pe_glob hg hm (v := .int i) ⟨t, rfl⟩ hd
theorem pe_gref {X : Cx} {x : Str} {a : Addr} {pos : Pos} (hg : Gl X x) (hm : X.mg x = some (.ref a)) (hd : (x == ("__debug__" : Str)) = false := by decide) : PE X (.Name x pos) (tC (.ref a)) := pe_glob hg hm (v := .ref a) rfl hd
theorem pe_ty {X : Cx} {x : Str} {n : String} {pos : Pos} (hg : Gl X x) (hm : X.mg x = none) (hv : bootBuiltins x = some (.type n)) (hn : x ≠ "__name__" := by decide) (hd : (x == ("__debug__" : Str)) = false := by decide) : PE X (.Name x pos) (tC (.ty n)) := pe_bltn hg hm hv (v := .ty n) rfl hn hd
theorem yes_if {σ : L2.St} {H : Hp} {A B : Hp → Prop} (h : A H) : tYes σ H fun b H3 => if b = true then A H3 else B H3 := by
  show if true = true then A H else B H
  rw [if_pos rfl]
  exact h
abbrev Ln : Type := Str × List Int
def Ln.v (l : Ln) : List V := .str l.1 :: l.2.map V.int
def mostI (c : Nat) (st n : Int) : Int := if c = 110 then n - 1 else if c = 115 then st - 1 else if c = 112 then 4 else if c = 97 then 3 else 1000000000
def letters : List Nat := [110, 115, 112, 97, 109]
/-! ### most_of -/
def spMost : Sp := fun vs H Q _ => ∃ c st n, vs = [.str ⟨#[c]⟩, .int st, .int n] ∧ c ∈ letters ∧ ∀ H', Ex H H' → Q (.int (mostI c st n)) H'
theorem ok_most (T : Tx w K mg) : ∃ fd, FnP K d_most_of_mice fd ∧ FnOk Pr w K mg base CX0 1 (He.fAd K d_most_of_mice.at_) fd ["form", "stones", "lines"] spMost := by
  obtain ⟨fd, F⟩ := T.F_most_of_mice
  obtain ⟨t1, e1⟩ := T.i_MIDDLE
  obtain ⟨t2, e2⟩ := T.i_MOST_SAID_mice
  refine ⟨fd, F, F.ok sc_most_of_mice (fun vs H Q E h => ?_) fun cdv A outer s H vs Q E hr h => ?_⟩
  · obtain ⟨c, st, n, rfl, _⟩ := h; rfl
  refine ⟨_, PSs.nox (pss_one (ps_ret (pe_dget (hu_of hr) (pe_disp (pps_cons pe_str (pe_op op_sub (pv 2) pe_int) (pps_cons pe_str (pe_op op_sub (pv 1) pe_int) (pps_cons pe_str (pe_gint rfl e1) (pps_cons pe_str (pe_op op_sub (pe_gint rfl e1) pe_int)
    (pps_cons pe_str (pe_gint rfl e2) pps_nil))))) (by rfl) (by rfl) (fun z => by cases z) (by decide)) (pv 0) (fun _ _ => rfl)))), ?_⟩
  obtain ⟨c, st, n, rfl, hc, q⟩ := h
  intro p hp
  refine ⟨_, rfl, n, 1, rfl, rfl, ?_⟩
  refine ⟨_, rfl, st, 1, rfl, rfl, ?_⟩
  refine ⟨4, 1, rfl, rfl, ?_⟩
  refine ⟨upd_same, [(.inr "n", .int (n - 1)), (.inr "s", .int (st - 1)), (.inr "p", .int 4), (.inr "a", .int (4 - 1)), (.inr "m", .int 1000000000)], rfl, by simp, ?_⟩
  have em : mergeK [] [(Sum.inr "n", V.int (n - 1)), (Sum.inr "s", .int (st - 1)), (Sum.inr "p", .int 4), (Sum.inr "a", .int (4 - 1)), (Sum.inr "m", .int 1000000000)] = [((Sum.inr "n" : Key), V.int (n - 1)), (.inr "s", .int (st - 1)), (.inr "p", .int 4), (.inr "a", .int (4 - 1)), (.inr "m", .int 1000000000)] := by rfl
  rw [em]
  refine ⟨_, rfl, p, .int (mostI c st n), rfl, .inl ⟨_, Sum.inr ⟨#[c]⟩, .inl upd_same, rfl, ?_⟩, q _ (Ex.upd (Ex.new hp) hp)⟩
  have h' : c = 110 ∨ c = 115 ∨ c = 112 ∨ c = 97 ∨ c = 109 := by simpa [letters] using hc
  rcases h' with h | h | h | h | h <;> subst h <;> rfl

/-! ### is_line -/
def LineAt (K : PySem.W.Frag) (H : Hp) (a : Addr) (l : Ln) : Prop := SqT K H a (Ln.v l)
def Good (st n : Int) (l : Ln) : Prop := ∃ f : Str, (l.1, f) ∈ formsL ∧ l.2.length = f.cps.size ∧ ∀ (i : Nat) (x : Int) (c : Nat), l.2[i]? = some x → f.cps[i]? = some c → c ∈ letters ∧ 0 ≤ x ∧ x ≤ mostI c st n
theorem cut1 (x : V) (xs : List V) : cutV (x :: xs) (some 1) none = xs := by
  unfold cutV
  have h1 : HT.sIx (x :: xs).length 0 (some 1) = 1 := by simp [HT.sIx]
  have h2 : HT.sIx (x :: xs).length (x :: xs).length none = (x :: xs).length := by simp [HT.sIx]
  rw [h1, h2]
  simp
theorem whole1 (x : V) (xs : List V) : ¬ (HT.sIx (x :: xs).length 0 (some 1) = 0 ∧ HT.sIx (x :: xs).length (x :: xs).length none = (x :: xs).length) := by
  have h1 : HT.sIx (x :: xs).length 0 (some 1) = 1 := by simp [HT.sIx]
  rw [h1]
  intro h
  exact absurd h.1 (by decide)
theorem tyx_sqt {H : Hp} {a : Addr} {xs : List V} (h : SqT K H a xs) : TyX K H (.ref a) (.type "tuple") := by
  rcases h with (h | ⟨o, h⟩) | ⟨o, its, n, h1, h2, _⟩
  · exact .base (.tup h)
  · exact .fTuple h
  · exact .kTuple h1 h2
theorem tyx_sql {H : Hp} {a : Addr} {xs : List V} (h : SqL K H a xs) : TyX K H (.ref a) (.type "list") := by
  rcases h with (h | ⟨o, h⟩) | ⟨o, its, n, h1, h2, _⟩
  · exact .base (.lst h)
  · exact .base (.frz h)
  · exact .kList h1 h2
def spLine (K : PySem.W.Frag) : Sp := fun vs H Q _ => ∃ a st n l, vs = [.ref a, .int st, .int n] ∧ LineAt K H a l ∧ Good st n l ∧ ∀ H', Ex H H' → Q (.bl true) H'
theorem ok_line (T : Tx w K mg) : ∃ fd, FnP K d_is_line_mice fd ∧ FnOk Pr w K mg base CX0 3 (He.fAd K d_is_line_mice.at_) fd ["value", "stones", "lines"] (spLine K) := by
  obtain ⟨fd, F⟩ := T.F_is_line_mice
  obtain ⟨fdW, FW, GW⟩ := ok_within (base := base) T
  obtain ⟨fdM, FM, GM⟩ := ok_most (base := base) T
  have bW : Binds K fdW ["value", "least", "most"] [] := FW.bindsN fun _ _ _ _ _ _ us hl => match us, hl with | [_, _, _], _ => rfl
  have bM : Binds K fdM ["form", "stones", "lines"] [] := FM.bindsN fun _ _ _ _ _ _ us hl => match us, hl with | [_, _, _], _ => rfl
  refine ⟨fd, F, F.ok sc_is_line_mice (fun vs H Q E h => ?_) fun cdv A outer s H vs Q E hr h => ?_⟩
  · obtain ⟨a, st, n, l, rfl, _⟩ := h; rfl
  have nd := sc_is_line_mice.nd
  refine ⟨_, PSs.nox (pss_cons (ps_if (PW.pt (pw_or (pt_not (pt_val (pe_callB call_isiT rfl T.n_isinstance (by decide +kernel) (pa_cons (pv 0) (pa_cons (pe_tup (pa_cons (pe_ty (n := "list") rfl T.n_list (by decide +kernel)) (pa_cons (pe_ty (n := "tuple") rfl T.n_tuple (by decide +kernel)) pa_nil))) pa_nil)))))
      (pw_or (pt_cmpR op_eq (pe_callB call_len_seq rfl T.n_len (by decide +kernel) (pa_cons (pv 0) pa_nil)) pe_int (nomark _))
        (pw_or1 (pt_not (pt_val (pe_callB call_isi rfl T.n_isinstance (by decide +kernel) (pa_cons (pe_ix ix_tup (pv 0) pe_int (fun _ _ => rfl)) (pa_cons (pe_ty (n := "str") rfl T.n_str (by decide +kernel)) pa_nil)))))))))
      (pss_one (ps_ret pe_bl)) pss_nil)
    (pss_cons (ps_set (i := 3) nd rfl (Or.inl rfl) (pe_kget1 (pe_gref rfl T.g_FORMS) (pe_ix ix_tup (pv 0) pe_int (fun _ _ => rfl)) ⟨rfl, rfl, rfl, rfl⟩))
    (pss_cons (ps_if (PW.pt (pw_or (pt_cmpR op_isN (pv 3) pe_non (nomark _)) (pw_or1 (pt_cmpR op_ne (pe_callB call_len_seq rfl T.n_len (by decide +kernel) (pa_cons (pv 0) pa_nil)) (pe_op op_add (pe_callB call_len_str rfl T.n_len (by decide +kernel) (pa_cons (pv 3) pa_nil)) pe_int) (nomark _))))) (pss_one (ps_ret pe_bl)) pss_nil)
    (pss_one (ps_ret (pe_callB (cr_all rfl) rfl T.n_all (by decide +kernel) (pa_cons
      (pe_lc (own := [("each", 4), ("its", 5)]) (g := gTup K 2 (gCons (gName 4) (gCons (gName 5) gNil))) (tt := tYes) rfl nd (pi_zipS rfl T.n_zip (pa_cons (pe_slice sl_tup (pv 0) (po_some pe_int) po_none) (pa_cons (pv 3) pa_nil))) (blkOk_by (N := N_is_line_mice) (sc := defScope s_is_line_mice) (by decide +kernel))
        (fun _ _ _ _ _ => by exact pg_tup rfl (pgs_cons (pg_name (i := 4) nd rfl (Or.inl rfl)) (pgs_cons (pg_name (i := 5) nd rfl (Or.inl rfl)) pgs_nil))) (fun _ _ _ _ _ => pts_nil)
        (fun _ _ _ _ _ => pe_call GW hr rfl T.g_is_within FW.kp bW .nil pass0 (pa_cons (pv 4) (pa_cons pe_int (pa_cons (pe_call GM (hr.mono (by decide)) rfl T.g_most_of_mice FM.kp bM .nil pass0 (pa_cons (pv 5) (pa_cons (pv 1) (pa_cons (pv 2) pa_nil)))) pa_nil))))) pa_nil))))))), ?_⟩
  obtain ⟨a, st, n, l, rfl, hl, hg, q⟩ := h
  obtain ⟨f, hf, hlen, hargs⟩ := hg
  refine ⟨_, rfl, by decide, fun p hp => ?_⟩
  have e1 : Ex H (upd H p (.tup [.ty "list", .ty "tuple"])) := Ex.new hp
  have hl1 : LineAt K (upd H p (.tup [.ty "list", .ty "tuple"])) a l := e1.st hl
  refine ⟨.ref a, p, _, .type "tuple", [.type "list", .type "tuple"], true, rfl, upd_same, .cons (.ty _) (.cons (.ty _) .nil), tyx_sqt hl1, kitAny_cons (b := false) (kit_ty (by decide +kernel)) (fun _ => kitAny_cons (b := true) (kit_ty (by decide +kernel)) (fun z => by cases z) (fun _ => rfl)) (fun z => by cases z), true, rfl, ?_⟩
  generalize upd H p (.tup [.ty "list", .ty "tuple"]) = H1 at e1 hl1
  refine iteF ?_
  refine ⟨_, rfl, a, Ln.v l, rfl, .inr hl1, rfl, _, rfl, ?_⟩
  refine iteB (fun z => absurd (of_decide_eq_true z) (by simp [Ln.v]; omega)) fun _ => ?_
  refine ⟨_, rfl, a, _, 0, .str l.1, rfl, rfl, hl1, atI_nat (j := 0) rfl, .str l.1, .ty "str", .type "str", .type "str", true, rfl, .ty _, .base (.str _), kit_ty (by decide +kernel), true, rfl, ?_⟩
  refine iteF ?_
  obtain ⟨es, m, KD⟩ := T.t_FORMS
  obtain ⟨t, ht⟩ := txtB_ok (List.all_eq_true.mp T.ex8 _ hf)
  refine ⟨_, es, m, rfl, KD, _, rfl, a, _, 0, .str l.1, rfl, rfl, hl1, atI_nat (j := 0) rfl, l.1, _, .str f, rfl, ht, ⟨t, rfl⟩, ?_⟩
  refine ⟨_, rfl, rfl, _, rfl, ?_⟩
  refine iteB (fun z => absurd (of_decide_eq_true z) (by simp)) fun _ => ?_
  have hfl : f.length ≤ sizeLine := by
    have : ∀ q ∈ formsL, q.2.length ≤ 10 := by decide
    exact Nat.le_trans (this _ hf) (by decide)
  refine ⟨_, rfl, a, Ln.v l, rfl, .inr hl1, _, rfl, f, rfl, hfl, f.length, 1, rfl, rfl, rfl, _, rfl, ?_⟩
  have el : decide (V.int ((Ln.v l).length : Int) = V.int ((f.length : Int) + 1)) = true := by
    refine decide_eq_true ?_
    have : l.2.length = f.length := hlen
    simp [Ln.v, this]
  rw [el]
  refine iteF ?_
  refine ⟨_, rfl, 1, rfl, a, Ln.v l, rfl, hl1, whole1 _ _, fun t' ht' => ?_⟩
  have ec : cutV (Ln.v l) (some 1) none = l.2.map V.int := cut1 _ _
  rw [ec]
  refine ⟨_, rfl, t', l.2.map V.int, f, rfl, .of upd_same, fun D hD => ?_⟩
  have e2 : Ex H (upd H1 t' (.tup (l.2.map V.int))) := e1.trans (Ex.new ht')
  have ht2 : SqT K (upd H1 t' (.tup (l.2.map V.int))) t' (l.2.map V.int) := .of upd_same
  generalize upd H1 t' (.tup (l.2.map V.int)) = H2 at e2 ht2 hD
  refine lc_zipS (fun i H' => Ex H2 H' ∧ H' D = some (.lst ((List.replicate i true).map V.bl))) ⟨Ex.new hD, upd_same⟩ (fun i H' hi z => z.1.st ht2) (fun i y c T' H' hy hc z hT => ?_) (fun H' z => ?_)
  · obtain ⟨x, hx, rfl⟩ : ∃ x, l.2[i]? = some x ∧ y = .int x := by
      rw [List.getElem?_map] at hy
      cases hx : l.2[i]? with
      | none => rw [hx] at hy; cases hy
      | some x => rw [hx] at hy; cases hy; exact ⟨x, rfl, rfl⟩
    obtain ⟨hcl, h0, hm⟩ := hargs i x c hx hc
    obtain ⟨z1, z2⟩ := z
    refine ⟨T', _, rfl, .of upd_same, rfl, _, _, rfl, _, _, rfl, rfl, rfl, ?_⟩
    refine yes_if ?_
    refine ⟨_, rfl, _, rfl, _, rfl, _, rfl, c, st, n, rfl, hcl, fun H3 e3 => ?_⟩
    refine ⟨.int x, 0, mostI c st n, rfl, .inr ⟨x, rfl, ?_⟩⟩
    have nD : D ≠ T' := ne_of_none z2 hT
    have z3 : H3 D = some (.lst ((List.replicate i true).map V.bl)) := e3 D _ (by rw [upd_ne nD]; exact z2)
    have hsz : i < sizeLine := by
      have h1 : i < f.cps.size := by
        rcases Nat.lt_or_ge i f.cps.size with h | h
        · exact h
        · rw [Array.getElem?_eq_none h] at hc; cases hc
      exact Nat.lt_of_lt_of_le h1 hfl
    refine ⟨_, z3, by simpa using hsz, ?_, ?_⟩
    · exact Ex.upd ((z1.trans (Ex.new hT)).trans e3) hD
    · rw [upd_same, decide_eq_true h0, decide_eq_true hm, List.replicate_succ', List.map_append]
      rfl
  · obtain ⟨z1, z2⟩ := z
    refine ⟨D, List.replicate _ true, rfl, .of z2, ?_⟩
    have : (List.replicate (min (l.2.map V.int).length f.cps.size) true).all id = true := by simp
    rw [this]
    exact q _ (e2.trans z1)
end K72

set_option Elab.async false
set_option linter.all false
set_option maxRecDepth 100000
set_option maxHeartbeats 4000000
namespace K72
open PySem PySem.Spec PyProof.Rows L2 Fs
variable {w : World} {K : PySem.W.Frag} {mg : Str → Option Value} {base : Heap}

def rLenQ (K : PySem.W.Frag) : List V → Hp → VK → Prop := fun xs H Q => ∃ p ys, xs = [.ref p] ∧ (SqL K H p ys ∨ SqT K H p ys) ∧ Q (.int ys.length) H
theorem call_lenQ {X : Cx} : CallR X (.builtin "len") (rLenQ X.K) := call_len_seq
def rTupT (K : PySem.W.Frag) : List V → Hp → VK → Prop := fun xs H Q => ∃ a ys, xs = [.ref a] ∧ SqT K H a ys ∧ Q (.ref a) H
theorem call_tupT {X : Cx} : CallR X (.type "tuple") (rTupT X.K) := call_tupleT
/-! ### are_lines -/
def spLines (K : PySem.W.Frag) : Sp := fun vs H Q _ => ∃ a st refs lines, vs = [.ref a, .int st] ∧ SqL K H a (refs.map V.ref) ∧ Paired (LineAt K H) refs lines ∧ 1 ≤ lines.length ∧ lines.length ≤ 6000 ∧ (∀ l ∈ lines, Good st lines.length l) ∧ ∀ H', Ex H H' → Q (.bl true) H'
theorem paired_at {α β : Type} {F : α → β → Prop} : ∀ {l : List α} {m : List β} {i : Nat} {x : α}, Paired F l m → l[i]? = some x → ∃ y, m[i]? = some y ∧ F x y
  | _, _, _, _, .nil, h => by simp at h
  | _, _, 0, _, .cons r t, h => by simp at h; subst h; exact ⟨_, rfl, r⟩
  | _, _, i + 1, _, .cons r t, h => by
    obtain ⟨y, h1, h2⟩ := paired_at (i := i) t (by simpa using h)
    exact ⟨y, by simpa using h1, h2⟩
theorem lines_ex {H H' : Hp} (e : Ex H H') {refs : List Addr} {lines : List Ln} (h : Paired (LineAt K H) refs lines) : Paired (LineAt K H') refs lines := Fs.Paired.mono (fun _ _ z => e.st z) h
theorem ok_lines (T : Tx w K mg) : ∃ fd, FnP K d_are_lines fd ∧ FnOk Pr w K mg base CX0 4 (He.fAd K d_are_lines.at_) fd ["value", "stones"] (spLines K) := by
  obtain ⟨fd, F⟩ := T.F_are_lines
  obtain ⟨fdL, FL, GL⟩ := ok_line (base := base) T
  have bL : Binds K fdL ["value", "stones", "lines"] [] := FL.bindsN fun _ _ _ _ _ _ us hl => match us, hl with | [_, _, _], _ => rfl
  obtain ⟨t1, i1⟩ := T.i_MOST_LINES_mice
  refine ⟨fd, F, F.ok sc_are_lines (fun vs H Q E h => ?_) fun cdv A outer s H vs Q E hr h => ?_⟩
  · obtain ⟨a, st, refs, lines, rfl, _⟩ := h; rfl
  have nd := sc_are_lines.nd
  refine ⟨_, PSs.nox (pss_cons (ps_if (PW.pt (pw_or (pt_not (pt_val (pe_callB call_isiT rfl T.n_isinstance (by decide +kernel) (pa_cons (pv 0) (pa_cons (pe_tup (pa_cons (pe_ty (n := "list") rfl T.n_list (by decide +kernel)) (pa_cons (pe_ty (n := "tuple") rfl T.n_tuple (by decide +kernel)) pa_nil))) pa_nil)))))
      (pw_or1 (pt_not (pt_chain op_le op_le pe_int (pe_callB call_len_seq rfl T.n_len (by decide +kernel) (pa_cons (pv 0) pa_nil)) (pe_gint rfl i1)))))) (pss_one (ps_ret pe_bl)) pss_nil)
    (pss_one (ps_ret (pe_callB (cr_all rfl) rfl T.n_all (by decide +kernel) (pa_cons
      (pe_lc (own := [("each", 2)]) (g := gName 2) (tt := tYes) rfl nd (pi_list (pv 0)) (blkOk_by (N := N_are_lines) (sc := defScope s_are_lines) (by decide +kernel))
        (fun _ _ _ _ _ => pg_name (i := 2) nd rfl (Or.inl rfl)) (fun _ _ _ _ _ => pts_nil)
        (fun _ _ _ _ _ => pe_call GL hr rfl T.g_is_line_mice FL.kp bL .nil pass0 (pa_cons (pv 2) (pa_cons (pv 1) (pa_cons (pe_callB (id := "len") (r := rLenQ K) call_lenQ rfl T.n_len (by decide +kernel) (pa_cons (pv 0) pa_nil)) pa_nil))))) pa_nil))))), ?_⟩
  obtain ⟨a, st, refs, lines, rfl, ha, hp, n1, n2, hg, q⟩ := h
  have hlen : refs.length = lines.length := Paired.length hp
  refine ⟨_, rfl, by decide, fun p hp' => ?_⟩
  have e1 : Ex H (upd H p (.tup [.ty "list", .ty "tuple"])) := Ex.new hp'
  have ha1 := e1.sl (K := K) ha
  have hp1 := lines_ex e1 hp
  refine ⟨.ref a, p, _, .type "list", [.type "list", .type "tuple"], true, rfl, upd_same, .cons (.ty _) (.cons (.ty _) .nil), tyx_sql ha1, kitAny_cons (b := true) (kit_ty (by decide +kernel)) (fun z => by cases z) (fun _ => rfl), true, rfl, ?_⟩
  generalize upd H p (.tup [.ty "list", .ty "tuple"]) = H1 at e1 ha1 hp1
  refine iteF ?_
  refine ⟨_, rfl, a, _, rfl, .inl ha1, 1, _, rfl, rfl, _, rfl, ?_⟩
  have l1 : (decide ((1 : Int) ≤ ((refs.map V.ref).length : Int))) = true := decide_eq_true (by rw [List.length_map]; omega)
  rw [l1]
  refine iteT ?_
  have l2 : (decide (((refs.map V.ref).length : Int) ≤ (6000 : Int))) = true := decide_eq_true (by rw [List.length_map]; omega)
  refine ⟨_, _, rfl, rfl, _, rfl, ?_⟩
  rw [l2]
  refine iteF ?_
  refine ⟨_, rfl, a, rfl, ⟨_, ha1⟩, fun D hD => ?_⟩
  refine lc_list (K := K) (a := a) (xs := refs.map V.ref) (fun i H' => Ex H1 H' ∧ H' D = some (.lst ((List.replicate i true).map V.bl))) ⟨Ex.new hD, upd_same⟩ (fun i H' hi z => z.1.sl ha1) (fun i x H' hx z => ?_) (fun H' z => ?_)
  · obtain ⟨r, hr', rfl⟩ : ∃ r, refs[i]? = some r ∧ x = .ref r := by
      rw [List.getElem?_map] at hx
      cases h : refs[i]? with
      | none => rw [h] at hx; cases hx
      | some r => rw [h] at hx; cases hx; exact ⟨r, rfl, rfl⟩
    obtain ⟨l, hl, hat⟩ := paired_at hp1 hr'
    obtain ⟨z1, z2⟩ := z
    refine ⟨rfl, yes_if ?_⟩
    refine ⟨_, rfl, _, rfl, _, rfl, a, refs.map V.ref, rfl, .inl (z1.sl ha1), r, st, _, l, rfl, z1.st hat, ?_, fun H3 e3 => ?_⟩
    · rw [List.length_map, hlen]
      exact hg l (List.mem_of_getElem? hl)
    · refine ⟨_, e3 D _ z2, ?_, Ex.upd (z1.trans e3) hD, ?_⟩
      · have : i < refs.length := (List.getElem?_eq_some_iff.mp hr').1
        have h6 : (6000 : Nat) ≤ sizeLine := by decide
        simp
        omega
      · rw [upd_same, List.replicate_succ', List.map_append]
        rfl
  · obtain ⟨z1, z2⟩ := z
    refine ⟨D, List.replicate _ true, rfl, .of z2, ?_⟩
    have : (List.replicate (refs.map V.ref).length true).all id = true := by simp
    rw [this]
    exact q _ (e1.trans z1)

/-! ### Mouse.__init__ -/
/-- all but a stands -/
def ExB (a : Addr) (H H' : Hp) : Prop := ∀ b o, b ≠ a → H b = some o → H' b = some o
theorem ExB.of {a : Addr} {H H' : Hp} (e : Ex H H') : ExB a H H' := fun b o _ h => e b o h
theorem ExB.trans {a : Addr} {H H1 H2 : Hp} (x : ExB a H H1) (y : ExB a H1 H2) : ExB a H H2 := fun b o n h => y b o n (x b o n h)
theorem ExB.upd {a : Addr} {H : Hp} {u : HO} : ExB a H (upd H a u) := fun b o n h => (upd_ne n).trans h
theorem ExB.st {a b : Addr} {H H' : Hp} {xs : List V} {u : HO} (e : ExB a H H') (ha : H a = some u) (nu : ∀ ys, u ≠ .tup ys) (nf : ∀ o v, u ≠ .frz o v) (h : SqT K H b xs) : SqT K H' b xs := by
  rcases h with (h | ⟨o, h⟩) | h
  · exact .inl (.inl (e b _ (fun z => by rw [z, ha] at h; exact nu _ (Option.some.inj h)) h))
  · exact .inl (.inr ⟨o, e b _ (fun z => by rw [z, ha] at h; exact nf _ _ (Option.some.inj h)) h⟩)
  · exact .inr h
theorem ExB.sl {a b : Addr} {H H' : Hp} {xs : List V} {u : HO} (e : ExB a H H') (ha : H a = some u) (nu : ∀ ys, u ≠ .lst ys) (nf : ∀ o v, u ≠ .frz o v) (h : SqL K H b xs) : SqL K H' b xs := by
  rcases h with (h | ⟨o, h⟩) | h
  · exact .inl (.inl (e b _ (fun z => by rw [z, ha] at h; exact nu _ (Option.some.inj h)) h))
  · exact .inl (.inr ⟨o, e b _ (fun z => by rw [z, ha] at h; exact nf _ _ (Option.some.inj h)) h⟩)
  · exact .inr h
def LinesAt (K : PySem.W.Frag) (H : Hp) (L : Addr) (lines : List Ln) : Prop := ∃ refs, SqT K H L (refs.map V.ref) ∧ Paired (LineAt K H) refs lines
def MouseAt (K : PySem.W.Frag) (H : Hp) (m : Addr) (st : Int) (lines : List Ln) : Prop := ∃ dx L, H m = some (.ins (He.ga K "Mouse") dx [("stones", .int st), ("lines", .ref L)]) ∧ LinesAt K H L lines
theorem LinesAt.ex {H H' : Hp} {L : Addr} {lines : List Ln} (h : LinesAt K H L lines) (e : Ex H H') : LinesAt K H' L lines :=
  let ⟨refs, h1, h2⟩ := h; ⟨refs, e.st h1, lines_ex e h2⟩
theorem MouseAt.ex {H H' : Hp} {m : Addr} {st : Int} {lines : List Ln} (h : MouseAt K H m st lines) (e : Ex H H') : MouseAt K H' m st lines :=
  let ⟨dx, L, h1, h2⟩ := h; ⟨dx, L, e _ _ h1, h2.ex e⟩
def spMouse (K : PySem.W.Frag) : Sp := fun vs H Q _ => ∃ m st a refs lines dx, vs = [.ref m, .int st, .ref a] ∧ H m = some (.ins (He.ga K "Mouse") dx []) ∧ 0 ≤ st ∧ st ≤ 12 ∧ SqL K H a (refs.map V.ref) ∧ Paired (LineAt K H) refs lines ∧ 1 ≤ lines.length ∧ lines.length ≤ 6000 ∧
  (∀ l ∈ lines, Good st lines.length l) ∧ ∀ H', ExB m H H' → MouseAt K H' m st lines → Q .non H'
theorem ok_mouse (T : Tx w K mg) : ∃ fd, FnP K d_MouseU_initU fd ∧ FnOk Pr w K mg base CX0 5 (He.fAd K d_MouseU_initU.at_) fd ["self", "stones", "lines"] (spMouse K) := by
  obtain ⟨fd, F⟩ := T.F_MouseU_initU
  obtain ⟨fdL, FL, GL⟩ := ok_lines (base := base) T
  obtain ⟨fdW, FW, GW⟩ := ok_within (base := base) T
  have bL : Binds K fdL ["value", "stones"] [] := FL.bindsN fun _ _ _ _ _ _ us hl => match us, hl with | [_, _], _ => rfl
  have bW : Binds K fdW ["value", "least", "most"] [] := FW.bindsN fun _ _ _ _ _ _ us hl => match us, hl with | [_, _, _], _ => rfl
  obtain ⟨t1, i1⟩ := T.i_MOST_STONES
  refine ⟨fd, F, F.ok sc_MouseU_initU (fun vs H Q E h => ?_) fun cdv A outer s H vs Q E hr h => ?_⟩
  · obtain ⟨m, st, a, refs, lines, dx, rfl, _⟩ := h; rfl
  have nd := sc_MouseU_initU.nd
  refine ⟨_, PSs.nox (pss_cons (ps_if (pt_not (pt_val (pe_call GW (hr.mono (by decide)) rfl T.g_is_within FW.kp bW .nil pass0 (pa_cons (pv 1) (pa_cons pe_int (pa_cons (pe_gint rfl i1) pa_nil)))))) pss_never pss_nil)
    (pss_cons (ps_if (pt_not (pt_val (pe_call GL hr rfl T.g_are_lines FL.kp bL .nil pass0 (pa_cons (pv 2) (pa_cons (pv 1) pa_nil))))) pss_never pss_nil)
    (pss_cons (ps_fld (pv 0) (pv 1) rfl)
    (pss_one (ps_fld (pv 0) (pe_callTy (T := "tuple") call_tuple_of rfl T.n_tuple (by decide +kernel) (pa_cons
      (pe_lc (own := [("line", 3)]) (g := gName 3) (tt := tYes) rfl nd (pi_list (pv 2)) (blkOk_by (N := N_MouseU_initU) (sc := defScope s_MouseU_initU) (by decide +kernel))
        (fun _ _ _ _ _ => pg_name (i := 3) nd rfl (Or.inl rfl)) (fun _ _ _ _ _ => pts_nil)
        (fun _ _ _ _ _ => pe_callTy (T := "tuple") (r := rTupT K) call_tupT rfl T.n_tuple (by decide +kernel) (pa_cons (pv 3) pa_nil))) pa_nil)) rfl))))), ?_⟩
  obtain ⟨m, st, a, refs, lines, dx, rfl, hm, h0, h12, ha, hp, n1, n2, hg, q⟩ := h
  have hlen : refs.length = lines.length := Paired.length hp
  refine ⟨_, rfl, .int st, 0, 12, rfl, .inr ⟨st, rfl, ?_⟩⟩
  refine ⟨_, rfl, ?_⟩
  rw [decide_eq_true h0, decide_eq_true h12]
  refine iteF ?_
  refine ⟨_, rfl, _, rfl, a, st, refs, lines, rfl, ha, hp, n1, n2, hg, fun H1 e1 => ⟨true, rfl, iteF ?_⟩⟩
  have hm1 := e1 _ _ hm
  have ha1 := e1.sl (K := K) ha
  have hp1 := lines_ex e1 hp
  refine ⟨_, rfl, _, rfl, m, _, dx, _, rfl, hm1, T.c_Mouse, T.a_Mouse_stones, by simp, ?_⟩
  have b2 : ExB m H1 (upd H1 m (.ins (He.ga K "Mouse") dx (putF "stones" (.int st) []))) := ExB.upd
  have ha2 := b2.sl (K := K) hm1 (fun _ z => by cases z) (fun _ _ z => by cases z) ha1
  have hp2 : Paired (LineAt K (upd H1 m (.ins (He.ga K "Mouse") dx (putF "stones" (.int st) [])))) refs lines := Fs.Paired.mono (fun _ _ z => b2.st hm1 (fun _ z => by cases z) (fun _ _ z => by cases z) z) hp1
  have hm2 : upd H1 m (.ins (He.ga K "Mouse") dx (putF "stones" (.int st) [])) m = some (.ins (He.ga K "Mouse") dx [("stones", .int st)]) := upd_same
  generalize upd H1 m (.ins (He.ga K "Mouse") dx (putF "stones" (.int st) [])) = H2 at b2 ha2 hp2 hm2
  refine ⟨_, rfl, a, rfl, ⟨_, ha2⟩, fun D hD => ?_⟩
  refine lc_list (K := K) (a := a) (xs := refs.map V.ref) (fun i H' => Ex H2 H' ∧ H' D = some (.lst ((refs.take i).map V.ref))) ⟨Ex.new hD, upd_same⟩ (fun i H' hi z => z.1.sl ha2) (fun i x H' hx z => ?_) (fun H' z => ?_)
  · obtain ⟨r, hr', rfl⟩ : ∃ r, refs[i]? = some r ∧ x = .ref r := by
      rw [List.getElem?_map] at hx
      cases h : refs[i]? with
      | none => rw [h] at hx; cases hx
      | some r => rw [h] at hx; cases hx; exact ⟨r, rfl, rfl⟩
    obtain ⟨l, hl, hat⟩ := paired_at hp2 hr'
    obtain ⟨z1, z2⟩ := z
    refine ⟨rfl, yes_if ⟨_, rfl, r, _, rfl, z1.st hat, _, z2, ?_, Ex.upd z1 hD, ?_⟩⟩
    · have h6 : (6000 : Nat) ≤ sizeLine := by decide
      have : i < refs.length := (List.getElem?_eq_some_iff.mp hr').1
      simp
      omega
    · rw [upd_same, List.take_add_one, hr', List.map_append]
      rfl
  · obtain ⟨z1, z2⟩ := z
    rw [List.length_map, List.take_length] at z2
    refine ⟨D, _, rfl, .inl ⟨.of z2, fun L hL => ?_⟩⟩
    have hm3 := z1 _ _ hm2
    have nL : L ≠ m := fun z => by rw [z, hm3] at hL; cases hL
    refine ⟨_, rfl, m, _, dx, _, rfl, by rw [upd_ne (Ne.symm nL)]; exact hm3, T.c_Mouse, T.a_Mouse_lines, by simp, ?_⟩
    have e4 : Ex H2 (upd H' L (.tup (refs.map V.ref))) := z1.trans (Ex.new hL)
    have b5 : ExB m (upd H' L (.tup (refs.map V.ref))) (upd (upd H' L (.tup (refs.map V.ref))) m (.ins (He.ga K "Mouse") dx (putF "lines" (.ref L) [("stones", .int st)]))) := ExB.upd
    refine q _ (((ExB.of e1).trans b2).trans ((ExB.of e4).trans b5)) ⟨dx, L, upd_same, refs, .of (by rw [upd_ne nL]; exact upd_same), ?_⟩
    exact Fs.Paired.mono (fun _ _ z => b5.st (e4 _ _ hm2) (fun _ z => by cases z) (fun _ _ z => by cases z) (e4.st z)) hp2
/-! ### need_mouse -/
def spNeedMouse (K : PySem.W.Frag) : Sp := fun vs H Q E => ∃ x p, vs = [x, .str p] ∧ ((∃ n, TyX K H x (.type n) ∧ n ∈ Fs.tyNames ∧ Raised H E (He.ga K "BadMouse") [("part", .str p)]) ∨ ∃ m dx fs, x = .ref m ∧ H m = some (.ins (He.ga K "Mouse") dx fs) ∧ Q .non H)
theorem ok_needMouse (T : Tx w K mg) : ∃ fd, FnP K d_need_mouse fd ∧ FnOk Pr w K mg base (L2.CX Pr w) 4 (He.fAd K d_need_mouse.at_) fd ["value", "part"] (spNeedMouse K) := by
  obtain ⟨fd, F⟩ := T.F_need_mouse
  have X := T.e_BadMouse
  obtain ⟨oc, od, osl, kV, doc, pm, an, ct, lk⟩ := X.lk
  refine ⟨fd, F, F.ok sc_need_mouse (fun vs H Q E h => ?_) fun cdv A outer s H vs Q E hr h => ?_⟩
  · obtain ⟨x, p, rfl, _⟩ := h; rfl
  have F1 := fn_e1 (CX := CX0) (w := w) (mg := mg) (base := base) (k := 0) X.sup sx_BadMouse (X.noat "part" (by simp [e_BadMouse])) lk X.code rfl rfl rfl rfl (fun _ => rfl) T.n_super
  have tk : Takes (cxOf (L2.CX Pr w) Pr w K mg base N_need_mouse d_need_mouse.qual d_need_mouse.scope (He.fAd K d_need_mouse.at_) cdv A outer s H E) (fun cls d _ H => E cls d H) := takes_of rfl rfl rfl rfl
  have bE : Binds K _ ["self", "part"] [] := .all (fd := PySem.W.fnX "__init__" e_BadMouse.qual e_BadMouse.params e_BadMouse.body e_BadMouse.scope [("__class__", ccOf K (He.ma K (He.ga K e_BadMouse.cls) "__init__"))] .none kV doc pm an (.ref (cdOf K (He.ma K (He.ga K e_BadMouse.cls) "__init__"))) ct) fun us hl => match us, hl with | [_, _], _ => rfl
  refine ⟨_, pss_one (ps_if (pt_not (pt_val (pe_callB call_isi rfl T.n_isinstance (by decide +kernel) (pa_cons (pv 0) (pa_cons (pe_gref rfl T.g_Mouse) pa_nil))))) (pss_one (ps_raise rfl tk (pmk_oex X.sup.own X.init X.ty F1 (hr.mono (by decide)) bE .nil (fun _ _ _ _ _ _ _ z => z.elim) rfl T.g_BadMouse (pa_cons (pv 1) pa_nil)))) pss_nil), ?_⟩
  obtain ⟨x, p, rfl, h⟩ := h
  rcases h with ⟨n, ty, hn, q⟩ | ⟨m, dx, fs, rfl, hm, q⟩
  · have k : PySem.W.kitOne K (.type n) (.ref (He.ga K "Mouse")) = some false := kitB1_ok (List.all_eq_true.mp T.ex0 n hn)
    refine ⟨x, rfl, x, _, .type n, .ref (He.ga K "Mouse"), false, rfl, .own _, ty, k, false, rfl, ?_⟩
    exact iteT ⟨_, rfl, by simp, mk_e1 (raised_new q)⟩
  · have k : PySem.W.kitOne K (.ref (He.ga K "Mouse")) (.ref (He.ga K "Mouse")) = some true := kitB1_ok T.ex1
    refine ⟨_, rfl, .ref m, _, .ref (He.ga K "Mouse"), .ref (He.ga K "Mouse"), true, rfl, .own _, tyx_ins hm T.c_Mouse (oc_ok T.ex2), k, true, rfl, ?_⟩
    exact iteF q
end K72

set_option Elab.async false
set_option linter.all false
set_option maxRecDepth 100000
set_option maxHeartbeats 4000000
namespace K72
open PySem PySem.Spec PyProof.Rows L2 Fs
variable {w : World} {K : PySem.W.Frag} {mg : Str → Option Value} {base : Heap}

def mostR (c : Nat) (bx n : Int) : Int := if c = 98 then bx - 1 else if c = 115 then 3 else if c = 110 then 1000000000 else n - 1
def lettersR : List Nat := [98, 115, 110, 108]
def spMostR : Sp := fun vs H Q _ => ∃ c st n, vs = [.str ⟨#[c]⟩, .int st, .int n] ∧ c ∈ lettersR ∧ ∀ H', Ex H H' → Q (.int (mostR c st n)) H'
theorem ok_mostR (T : Tx w K mg) : ∃ fd, FnP K d_most_of_reckoners fd ∧ FnOk Pr w K mg base CX0 1 (He.fAd K d_most_of_reckoners.at_) fd ["kind", "boxes", "lines"] spMostR := by
  obtain ⟨fd, F⟩ := T.F_most_of_reckoners
  obtain ⟨t2, e2⟩ := T.i_MOST_SAID_reckoners
  refine ⟨fd, F, F.ok sc_most_of_reckoners (fun vs H Q E h => ?_) fun cdv A outer s H vs Q E hr h => ?_⟩
  · obtain ⟨c, st, n, rfl, _⟩ := h; rfl
  refine ⟨_, PSs.nox (pss_one (ps_ret (pe_dget (hu_of hr) (pe_disp (pps_cons pe_str (pe_op op_sub (pv 1) pe_int) (pps_cons pe_str pe_int (pps_cons pe_str (pe_gint rfl e2) (pps_cons pe_str (pe_op op_sub (pv 2) pe_int) pps_nil)))) (by rfl) (by rfl) (fun z => by cases z) (by decide)) (pv 0) (fun _ _ => rfl)))), ?_⟩
  obtain ⟨c, st, n, rfl, hc, q⟩ := h
  intro p hp
  refine ⟨_, rfl, st, 1, rfl, rfl, ?_⟩
  refine ⟨_, rfl, n, 1, rfl, rfl, ?_⟩
  refine ⟨upd_same, [(.inr "b", .int (st - 1)), (.inr "s", .int 3), (.inr "n", .int 1000000000), (.inr "l", .int (n - 1))], rfl, by simp, ?_⟩
  have em : mergeK [] [(Sum.inr "b", V.int (st - 1)), (Sum.inr "s", .int 3), (Sum.inr "n", .int 1000000000), (Sum.inr "l", .int (n - 1))] = [((Sum.inr "b" : Key), V.int (st - 1)), (.inr "s", .int 3), (.inr "n", .int 1000000000), (.inr "l", .int (n - 1))] := by rfl
  rw [em]
  refine ⟨_, rfl, p, .int (mostR c st n), rfl, .inl ⟨_, Sum.inr ⟨#[c]⟩, .inl upd_same, rfl, ?_⟩, q _ (Ex.upd (Ex.new hp) hp)⟩
  have h' : c = 98 ∨ c = 115 ∨ c = 110 ∨ c = 108 := by simpa [lettersR] using hc
  rcases h' with h | h | h | h <;> subst h <;> rfl

def GoodR (bx n : Int) (l : Ln) : Prop := ∃ f : Str, (l.1, f) ∈ shapesL ∧ l.2.length = f.cps.size ∧ ∀ (i : Nat) (x : Int) (c : Nat), l.2[i]? = some x → f.cps[i]? = some c → c ∈ lettersR ∧ 0 ≤ x ∧ x ≤ mostR c bx n
def spRLine (K : PySem.W.Frag) : Sp := fun vs H Q _ => ∃ a st n l, vs = [.ref a, .int st, .int n] ∧ LineAt K H a l ∧ GoodR st n l ∧ ∀ H', Ex H H' → Q (.bl true) H'
theorem ok_rline (T : Tx w K mg) : ∃ fd, FnP K d_is_line_reckoners fd ∧ FnOk Pr w K mg base CX0 3 (He.fAd K d_is_line_reckoners.at_) fd ["value", "boxes", "lines"] (spRLine K) := by
  obtain ⟨fd, F⟩ := T.F_is_line_reckoners
  obtain ⟨fdW, FW, GW⟩ := ok_within (base := base) T
  obtain ⟨fdM, FM, GM⟩ := ok_mostR (base := base) T
  have bW : Binds K fdW ["value", "least", "most"] [] := FW.bindsN fun _ _ _ _ _ _ us hl => match us, hl with | [_, _, _], _ => rfl
  have bM : Binds K fdM ["kind", "boxes", "lines"] [] := FM.bindsN fun _ _ _ _ _ _ us hl => match us, hl with | [_, _, _], _ => rfl
  refine ⟨fd, F, F.ok sc_is_line_reckoners (fun vs H Q E h => ?_) fun cdv A outer s H vs Q E hr h => ?_⟩
  · obtain ⟨a, st, n, l, rfl, _⟩ := h; rfl
  have nd := sc_is_line_reckoners.nd
  refine ⟨_, PSs.nox (pss_cons (ps_if (PW.pt (pw_or (pt_not (pt_val (pe_callB call_isiT rfl T.n_isinstance (by decide +kernel) (pa_cons (pv 0) (pa_cons (pe_tup (pa_cons (pe_ty (n := "list") rfl T.n_list (by decide +kernel)) (pa_cons (pe_ty (n := "tuple") rfl T.n_tuple (by decide +kernel)) pa_nil))) pa_nil)))))
      (pw_or (pt_cmpR op_eq (pe_callB call_len_seq rfl T.n_len (by decide +kernel) (pa_cons (pv 0) pa_nil)) pe_int (nomark _))
        (pw_or1 (pt_not (pt_val (pe_callB call_isi rfl T.n_isinstance (by decide +kernel) (pa_cons (pe_ix ix_tup (pv 0) pe_int (fun _ _ => rfl)) (pa_cons (pe_ty (n := "str") rfl T.n_str (by decide +kernel)) pa_nil)))))))))
      (pss_one (ps_ret pe_bl)) pss_nil)
    (pss_cons (ps_if (PW.pt (pw_or (pt_cmpR op_notInKd (pe_ix ix_tup (pv 0) pe_int (fun _ _ => rfl)) (pe_gref rfl T.g_SHAPES) (by rfl)) (pw_or1 (pt_cmpR op_ne (pe_callB call_len_seq rfl T.n_len (by decide +kernel) (pa_cons (pv 0) pa_nil)) (pe_op op_add (pe_callB call_len_str rfl T.n_len (by decide +kernel) (pa_cons (pe_ix ix_kdict (pe_gref rfl T.g_SHAPES) (pe_ix ix_tup (pv 0) pe_int (fun _ _ => rfl)) (fun _ _ => rfl)) pa_nil)) pe_int) (nomark _))))) (pss_one (ps_ret pe_bl)) pss_nil)
    (pss_one (ps_ret (pe_callB (cr_all rfl) rfl T.n_all (by decide +kernel) (pa_cons
      (pe_lc (own := [("part", 3), ("kind", 4)]) (g := gTup K 2 (gCons (gName 3) (gCons (gName 4) gNil))) (tt := tYes) rfl nd (pi_zipS rfl T.n_zip (pa_cons (pe_slice sl_tup (pv 0) (po_some pe_int) po_none) (pa_cons (pe_ix ix_kdict (pe_gref rfl T.g_SHAPES) (pe_ix ix_tup (pv 0) pe_int (fun _ _ => rfl)) (fun _ _ => rfl)) pa_nil))) (blkOk_by (N := N_is_line_reckoners) (sc := defScope s_is_line_reckoners) (by decide +kernel))
        (fun _ _ _ _ _ => by exact pg_tup rfl (pgs_cons (pg_name (i := 3) nd rfl (Or.inl rfl)) (pgs_cons (pg_name (i := 4) nd rfl (Or.inl rfl)) pgs_nil))) (fun _ _ _ _ _ => pts_nil)
        (fun _ _ _ _ _ => pe_call GW hr rfl T.g_is_within FW.kp bW .nil pass0 (pa_cons (pv 3) (pa_cons pe_int (pa_cons (pe_call GM (hr.mono (by decide)) rfl T.g_most_of_reckoners FM.kp bM .nil pass0 (pa_cons (pv 4) (pa_cons (pv 1) (pa_cons (pv 2) pa_nil)))) pa_nil))))) pa_nil)))))), ?_⟩
  obtain ⟨a, st, n, l, rfl, hl, hg, q⟩ := h
  obtain ⟨f, hf, hlen, hargs⟩ := hg
  refine ⟨_, rfl, by decide, fun p hp => ?_⟩
  have e1 : Ex H (upd H p (.tup [.ty "list", .ty "tuple"])) := Ex.new hp
  have hl1 : LineAt K (upd H p (.tup [.ty "list", .ty "tuple"])) a l := e1.st hl
  refine ⟨.ref a, p, _, .type "tuple", [.type "list", .type "tuple"], true, rfl, upd_same, .cons (.ty _) (.cons (.ty _) .nil), tyx_sqt hl1, kitAny_cons (b := false) (kit_ty (by decide +kernel)) (fun _ => kitAny_cons (b := true) (kit_ty (by decide +kernel)) (fun z => by cases z) (fun _ => rfl)) (fun z => by cases z), true, rfl, ?_⟩
  generalize upd H p (.tup [.ty "list", .ty "tuple"]) = H1 at e1 hl1
  refine iteF ?_
  refine ⟨_, rfl, a, Ln.v l, rfl, .inr hl1, rfl, _, rfl, ?_⟩
  refine iteB (fun z => absurd (of_decide_eq_true z) (by simp [Ln.v]; omega)) fun _ => ?_
  refine ⟨_, rfl, a, _, 0, .str l.1, rfl, rfl, hl1, atI_nat (j := 0) rfl, .str l.1, .ty "str", .type "str", .type "str", true, rfl, .ty _, .base (.str _), kit_ty (by decide +kernel), true, rfl, ?_⟩
  refine iteF ?_
  obtain ⟨es, m, KD⟩ := T.t_SHAPES
  obtain ⟨t, ht⟩ := txtB_ok (List.all_eq_true.mp T.ex9 _ hf)
  have kd : KDct K w (He.ga K "SHAPES") l.1 (.str f) := ⟨es, m, _, KD.at_, KD.lit, ht, ⟨t, rfl⟩⟩
  refine ⟨_, rfl, a, _, 0, .str l.1, rfl, rfl, hl1, atI_nat (j := 0) rfl, _, es, m, l.1, _, rfl, rfl, KD, ht, _, rfl, ?_⟩
  refine iteF ?_
  have hfl : f.length ≤ sizeLine := by
    have : ∀ q ∈ shapesL, q.2.length ≤ 10 := by decide
    exact Nat.le_trans (this _ hf) (by decide)
  refine ⟨_, rfl, a, Ln.v l, rfl, .inr hl1, _, rfl, a, _, 0, .str l.1, rfl, rfl, hl1, atI_nat (j := 0) rfl, _, l.1, .str f, rfl, rfl, kd, f, rfl, hfl, f.length, 1, rfl, rfl, rfl, _, rfl, ?_⟩
  have el : decide (V.int ((Ln.v l).length : Int) = V.int ((f.length : Int) + 1)) = true := by
    refine decide_eq_true ?_
    have : l.2.length = f.length := hlen
    simp [Ln.v, this]
  rw [el]
  refine iteF ?_
  refine ⟨_, rfl, 1, rfl, a, Ln.v l, rfl, hl1, whole1 _ _, fun t' ht' => ?_⟩
  have ec : cutV (Ln.v l) (some 1) none = l.2.map V.int := cut1 _ _
  rw [ec]
  have e2 : Ex H (upd H1 t' (.tup (l.2.map V.int))) := e1.trans (Ex.new ht')
  have hl2 : LineAt K (upd H1 t' (.tup (l.2.map V.int))) a l := (Ex.new ht').st hl1
  have ht2 : SqT K (upd H1 t' (.tup (l.2.map V.int))) t' (l.2.map V.int) := .of upd_same
  refine ⟨_, rfl, a, _, 0, .str l.1, rfl, rfl, hl2, atI_nat (j := 0) rfl, _, l.1, .str f, rfl, rfl, kd, t', l.2.map V.int, f, rfl, ht2, fun D hD => ?_⟩
  generalize upd H1 t' (.tup (l.2.map V.int)) = H2 at e2 ht2 hD
  refine lc_zipS (fun i H' => Ex H2 H' ∧ H' D = some (.lst ((List.replicate i true).map V.bl))) ⟨Ex.new hD, upd_same⟩ (fun i H' hi z => z.1.st ht2) (fun i y c T' H' hy hc z hT => ?_) (fun H' z => ?_)
  · obtain ⟨x, hx, rfl⟩ : ∃ x, l.2[i]? = some x ∧ y = .int x := by
      rw [List.getElem?_map] at hy
      cases hx : l.2[i]? with
      | none => rw [hx] at hy; cases hy
      | some x => rw [hx] at hy; cases hy; exact ⟨x, rfl, rfl⟩
    obtain ⟨hcl, h0, hm⟩ := hargs i x c hx hc
    obtain ⟨z1, z2⟩ := z
    refine ⟨T', _, rfl, .of upd_same, rfl, _, _, rfl, _, _, rfl, rfl, rfl, yes_if ?_⟩
    refine ⟨_, rfl, _, rfl, _, rfl, _, rfl, c, st, n, rfl, hcl, fun H3 e3 => ?_⟩
    refine ⟨.int x, 0, mostR c st n, rfl, .inr ⟨x, rfl, ?_⟩⟩
    have nD : D ≠ T' := ne_of_none z2 hT
    have z3 : H3 D = some (.lst ((List.replicate i true).map V.bl)) := e3 D _ (by rw [upd_ne nD]; exact z2)
    have hsz : i < sizeLine := by
      have h1 : i < f.cps.size := by
        rcases Nat.lt_or_ge i f.cps.size with h | h
        · exact h
        · rw [Array.getElem?_eq_none h] at hc; cases hc
      exact Nat.lt_of_lt_of_le h1 hfl
    refine ⟨_, z3, by simpa using hsz, ?_, ?_⟩
    · exact Ex.upd ((z1.trans (Ex.new hT)).trans e3) hD
    · rw [upd_same, decide_eq_true h0, decide_eq_true hm, List.replicate_succ', List.map_append]
      rfl
  · obtain ⟨z1, z2⟩ := z
    refine ⟨D, List.replicate _ true, rfl, .of z2, ?_⟩
    have : (List.replicate (min (l.2.map V.int).length f.cps.size) true).all id = true := by simp
    rw [this]
    exact q _ (e2.trans z1)

/-! ### Reckoner.__init__ -/
def RckAt (K : PySem.W.Frag) (H : Hp) (r : Addr) (bx : Int) (lines : List Ln) : Prop := ∃ dx L, H r = some (.ins (He.ga K "Reckoner") dx [("boxes", .int bx), ("lines", .ref L)]) ∧ LinesAt K H L lines
def spRck (K : PySem.W.Frag) : Sp := fun vs H Q _ => ∃ m st a refs lines dx, vs = [.ref m, .int st, .ref a] ∧ H m = some (.ins (He.ga K "Reckoner") dx []) ∧ 1 ≤ st ∧ st ≤ 12 ∧ SqL K H a (refs.map V.ref) ∧ Paired (LineAt K H) refs lines ∧ 1 ≤ lines.length ∧ lines.length ≤ 6000 ∧
  (∀ l ∈ lines, GoodR st lines.length l) ∧ ∀ H', ExB m H H' → RckAt K H' m st lines → Q .non H'
theorem ok_rck (T : Tx w K mg) : ∃ fd, FnP K d_ReckonerU_initU fd ∧ FnOk Pr w K mg base CX0 4 (He.fAd K d_ReckonerU_initU.at_) fd ["self", "boxes", "lines"] (spRck K) := by
  obtain ⟨fd, F⟩ := T.F_ReckonerU_initU
  obtain ⟨fdL, FL, GL⟩ := ok_rline (base := base) T
  obtain ⟨fdW, FW, GW⟩ := ok_within (base := base) T
  have bL : Binds K fdL ["value", "boxes", "lines"] [] := FL.bindsN fun _ _ _ _ _ _ us hl => match us, hl with | [_, _, _], _ => rfl
  have bW : Binds K fdW ["value", "least", "most"] [] := FW.bindsN fun _ _ _ _ _ _ us hl => match us, hl with | [_, _, _], _ => rfl
  obtain ⟨t1, i1⟩ := T.i_MOST_BOXES
  obtain ⟨t2, i2⟩ := T.i_MOST_LINES_reckoners
  refine ⟨fd, F, F.ok sc_ReckonerU_initU (fun vs H Q E h => ?_) fun cdv A outer s H vs Q E hr h => ?_⟩
  · obtain ⟨m, st, a, refs, lines, dx, rfl, _⟩ := h; rfl
  have nd := sc_ReckonerU_initU.nd
  refine ⟨_, PSs.nox (pss_cons (ps_if (pt_not (pt_val (pe_call GW (hr.mono (by decide)) rfl T.g_is_within FW.kp bW .nil pass0 (pa_cons (pv 1) (pa_cons pe_int (pa_cons (pe_gint rfl i1) pa_nil)))))) pss_never pss_nil)
    (pss_cons (ps_if (PW.pt (pw_or (pt_not (pt_val (pe_callB call_isiT rfl T.n_isinstance (by decide +kernel) (pa_cons (pv 2) (pa_cons (pe_tup (pa_cons (pe_ty (n := "list") rfl T.n_list (by decide +kernel)) (pa_cons (pe_ty (n := "tuple") rfl T.n_tuple (by decide +kernel)) pa_nil))) pa_nil)))))
      (pw_or1 (pt_not (pt_chain op_le op_le pe_int (pe_callB call_len_seq rfl T.n_len (by decide +kernel) (pa_cons (pv 2) pa_nil)) (pe_gint rfl i2)))))) pss_never pss_nil)
    (pss_cons (ps_if (pt_not (pt_val (pe_callB (cr_all rfl) rfl T.n_all (by decide +kernel) (pa_cons
      (pe_lc (own := [("each", 3)]) (g := gName 3) (tt := tYes) rfl nd (pi_list (pv 2)) (blkOk_by (N := N_ReckonerU_initU) (sc := defScope s_ReckonerU_initU) (by decide +kernel))
        (fun _ _ _ _ _ => pg_name (i := 3) nd rfl (Or.inl rfl)) (fun _ _ _ _ _ => pts_nil)
        (fun _ _ _ _ _ => pe_call GL hr rfl T.g_is_line_reckoners FL.kp bL .nil pass0 (pa_cons (pv 3) (pa_cons (pv 1) (pa_cons (pe_callB (id := "len") (r := rLenQ K) call_lenQ rfl T.n_len (by decide +kernel) (pa_cons (pv 2) pa_nil)) pa_nil))))) pa_nil)))) pss_never pss_nil)
    (pss_cons (ps_fld (pv 0) (pv 1) rfl)
    (pss_one (ps_fld (pv 0) (pe_callTy (T := "tuple") call_tuple_of rfl T.n_tuple (by decide +kernel) (pa_cons
      (pe_lc (own := [("each", 3)]) (g := gName 3) (tt := tYes) rfl nd (pi_list (pv 2)) (blkOk_by (N := N_ReckonerU_initU) (sc := defScope s_ReckonerU_initU) (by decide +kernel))
        (fun _ _ _ _ _ => pg_name (i := 3) nd rfl (Or.inl rfl)) (fun _ _ _ _ _ => pts_nil)
        (fun _ _ _ _ _ => pe_callTy (T := "tuple") (r := rTupT K) call_tupT rfl T.n_tuple (by decide +kernel) (pa_cons (pv 3) pa_nil))) pa_nil)) rfl)))))), ?_⟩
  obtain ⟨m, st, a, refs, lines, dx, rfl, hm, h0, h12, ha, hp, n1, n2, hg, q⟩ := h
  have hlen : refs.length = lines.length := Paired.length hp
  have h6 : (6000 : Nat) ≤ sizeLine := by decide
  have atx : ∀ {i : Nat} {x : V}, (refs.map V.ref)[i]? = some x → ∃ r, refs[i]? = some r ∧ x = .ref r := fun {i x} hx => by
    rw [List.getElem?_map] at hx
    cases h : refs[i]? with
    | none => rw [h] at hx; cases hx
    | some r => rw [h] at hx; cases hx; exact ⟨r, rfl, rfl⟩
  refine ⟨_, rfl, .int st, 1, 12, rfl, .inr ⟨st, rfl, ?_⟩⟩
  refine ⟨_, rfl, ?_⟩
  rw [decide_eq_true h0, decide_eq_true h12]
  refine iteF ?_
  refine ⟨_, rfl, by decide, fun p hp' => ?_⟩
  have e1 : Ex H (upd H p (.tup [.ty "list", .ty "tuple"])) := Ex.new hp'
  have ha1 := e1.sl (K := K) ha
  have hp1 := lines_ex e1 hp
  have hm1 := e1 _ _ hm
  refine ⟨.ref a, p, _, .type "list", [.type "list", .type "tuple"], true, rfl, upd_same, .cons (.ty _) (.cons (.ty _) .nil), tyx_sql ha1, kitAny_cons (b := true) (kit_ty (by decide +kernel)) (fun z => by cases z) (fun _ => rfl), true, rfl, ?_⟩
  generalize upd H p (.tup [.ty "list", .ty "tuple"]) = H1 at e1 ha1 hp1 hm1
  refine iteF ?_
  refine ⟨_, rfl, a, _, rfl, .inl ha1, 1, _, rfl, rfl, _, rfl, ?_⟩
  have l1 : (decide ((1 : Int) ≤ ((refs.map V.ref).length : Int))) = true := decide_eq_true (by rw [List.length_map]; omega)
  rw [l1]
  refine iteT ?_
  have l2 : (decide (((refs.map V.ref).length : Int) ≤ (6000 : Int))) = true := decide_eq_true (by rw [List.length_map]; omega)
  refine ⟨_, _, rfl, rfl, _, rfl, ?_⟩
  rw [l2]
  refine iteF ?_
  refine ⟨_, rfl, a, rfl, ⟨_, ha1⟩, fun D hD => ?_⟩
  refine lc_list (K := K) (a := a) (xs := refs.map V.ref) (fun i H' => Ex H1 H' ∧ H' D = some (.lst ((List.replicate i true).map V.bl))) ⟨Ex.new hD, upd_same⟩ (fun i H' hi z => z.1.sl ha1) (fun i x H' hx z => ?_) (fun H' z => ?_)
  · obtain ⟨r, hr', rfl⟩ := atx hx
    obtain ⟨l, hl, hat⟩ := paired_at hp1 hr'
    obtain ⟨z1, z2⟩ := z
    refine ⟨rfl, yes_if ?_⟩
    refine ⟨_, rfl, _, rfl, _, rfl, a, refs.map V.ref, rfl, .inl (z1.sl ha1), r, st, _, l, rfl, z1.st hat, ?_, fun H3 e3 => ?_⟩
    · rw [List.length_map, hlen]
      exact hg l (List.mem_of_getElem? hl)
    · refine ⟨_, e3 D _ z2, ?_, Ex.upd (z1.trans e3) hD, ?_⟩
      · have : i < refs.length := (List.getElem?_eq_some_iff.mp hr').1
        simp
        omega
      · rw [upd_same, List.replicate_succ', List.map_append]
        rfl
  obtain ⟨z1, z2⟩ := z
  refine ⟨D, List.replicate _ true, rfl, .of z2, ?_⟩
  have : (List.replicate (refs.map V.ref).length true).all id = true := by simp
  rw [this]
  refine ⟨true, rfl, iteF ?_⟩
  have e2 := e1.trans z1
  have hm2 := z1 _ _ hm1
  have ha2 := z1.sl (K := K) ha1
  have hp2 := lines_ex z1 hp1
  clear z2 this
  generalize H' = H3 at e2 hm2 ha2 hp2
  refine ⟨_, rfl, _, rfl, m, _, dx, _, rfl, hm2, T.c_Reckoner, T.a_Reckoner_boxes, by simp, ?_⟩
  have b2 : ExB m H3 (upd H3 m (.ins (He.ga K "Reckoner") dx (putF "boxes" (.int st) []))) := ExB.upd
  have ha4 := b2.sl (K := K) hm2 (fun _ z => by cases z) (fun _ _ z => by cases z) ha2
  have hp4 : Paired (LineAt K (upd H3 m (.ins (He.ga K "Reckoner") dx (putF "boxes" (.int st) [])))) refs lines := Fs.Paired.mono (fun _ _ z => b2.st hm2 (fun _ z => by cases z) (fun _ _ z => by cases z) z) hp2
  have hm4 : upd H3 m (.ins (He.ga K "Reckoner") dx (putF "boxes" (.int st) [])) m = some (.ins (He.ga K "Reckoner") dx [("boxes", .int st)]) := upd_same
  generalize upd H3 m (.ins (He.ga K "Reckoner") dx (putF "boxes" (.int st) [])) = H4 at b2 ha4 hp4 hm4
  refine ⟨_, rfl, a, rfl, ⟨_, ha4⟩, fun D2 hD2 => ?_⟩
  refine lc_list (K := K) (a := a) (xs := refs.map V.ref) (fun i H' => Ex H4 H' ∧ H' D2 = some (.lst ((refs.take i).map V.ref))) ⟨Ex.new hD2, upd_same⟩ (fun i H' hi z => z.1.sl ha4) (fun i x H' hx z => ?_) (fun H' z => ?_)
  · obtain ⟨r, hr', rfl⟩ := atx hx
    obtain ⟨l, hl, hat⟩ := paired_at hp4 hr'
    obtain ⟨z1, z2⟩ := z
    refine ⟨rfl, yes_if ⟨_, rfl, r, _, rfl, z1.st hat, _, z2, ?_, Ex.upd z1 hD2, ?_⟩⟩
    · have : i < refs.length := (List.getElem?_eq_some_iff.mp hr').1
      simp
      omega
    · rw [upd_same, List.take_add_one, hr', List.map_append]
      rfl
  · obtain ⟨z1, z2⟩ := z
    rw [List.length_map, List.take_length] at z2
    refine ⟨D2, _, rfl, .inl ⟨.of z2, fun L hL => ?_⟩⟩
    have hm3 := z1 _ _ hm4
    have nL : L ≠ m := fun z => by rw [z, hm3] at hL; cases hL
    refine ⟨_, rfl, m, _, dx, _, rfl, by rw [upd_ne (Ne.symm nL)]; exact hm3, T.c_Reckoner, T.a_Reckoner_lines, by simp, ?_⟩
    have e4 : Ex H4 (upd H' L (.tup (refs.map V.ref))) := z1.trans (Ex.new hL)
    have b5 : ExB m (upd H' L (.tup (refs.map V.ref))) (upd (upd H' L (.tup (refs.map V.ref))) m (.ins (He.ga K "Reckoner") dx (putF "lines" (.ref L) [("boxes", .int st)]))) := ExB.upd
    refine q _ (((ExB.of e2).trans b2).trans ((ExB.of e4).trans b5)) ⟨dx, L, upd_same, refs, .of (by rw [upd_ne nL]; exact upd_same), ?_⟩
    exact Fs.Paired.mono (fun _ _ z => b5.st (e4 _ _ hm4) (fun _ z => by cases z) (fun _ _ z => by cases z) (e4.st z)) hp4
end K72

set_option Elab.async false
set_option linter.all false
set_option maxRecDepth 100000
set_option maxHeartbeats 4000000
namespace K72
open PySem PySem.Spec PyProof.Rows L2 Fs
variable {w : World} {K : PySem.W.Frag} {mg : Str → Option Value} {base : Heap}

/-! ### standings -/
abbrev Sd : Type := Int × Int × List (Option Int)
def optV : Option Int → V
  | none => .non
  | some i => .int i
def optK : Option Int → NestedKey
  | none => .none
  | some i => .num i
def sdKey (s : Sd) : NestedKey := .tup [.num s.1, .num s.2.1, .tup (s.2.2.map optK)]
def SdAt (K : PySem.W.Frag) (H : Hp) (a : Addr) (s : Sd) : Prop := ∃ b, SqT K H a [.int s.1, .int s.2.1, .ref b] ∧ SqT K H b (s.2.2.map optV)
theorem SdAt.ex {H H' : Hp} {a : Addr} {s : Sd} (h : SdAt K H a s) (e : Ex H H') : SdAt K H' a s := let ⟨b, h1, h2⟩ := h; ⟨b, e.st h1, e.st h2⟩
theorem SdAt.ext {H H' : Hp} {a : Addr} {s : Sd} (h : SdAt K H a s) (e : ExT H H') : SdAt K H' a s := let ⟨b, h1, h2⟩ := h; ⟨b, h1.imp (e _ _) id, h2.imp (e _ _) id⟩
theorem kall_opt {H : Hp} : ∀ l : List (Option Int), KAll K H (l.map optK) (l.map optV)
  | [] => .nil
  | none :: r => .cons .non (kall_opt r)
  | some i :: r => .cons (.int i) (kall_opt r)
theorem opt_kall {H : Hp} : ∀ (l : List (Option Int)) (vs : List V), KAll K H (l.map optK) vs → vs = l.map optV
  | [], _, h => by cases h; rfl
  | none :: r, _, h => by
    cases h with
    | cons h1 h2 => cases h1; rw [opt_kall r _ h2]; rfl
  | some i :: r, _, h => by
    cases h with
    | cons h1 h2 => cases h1; rw [opt_kall r _ h2]; rfl
theorem SdAt.key {H : Hp} {a : Addr} {s : Sd} (h : SdAt K H a s) : KIs K H (sdKey s) (.ref a) := by
  obtain ⟨b, h1, h2⟩ := h
  exact .tup h1 (.cons (.int _) (.cons (.int _) (.cons (.tup h2 (kall_opt _)) .nil)))
theorem sd_of_key {H : Hp} {a : Addr} {s : Sd} (h : KIs K H (sdKey s) (.ref a)) : SdAt K H a s := by
  cases h with
  | tup h1 h2 =>
    cases h2 with
    | cons a1 r1 =>
      cases r1 with
      | cons a2 r2 =>
        cases r2 with
        | cons a3 r3 =>
          cases r3
          cases a1
          cases a2
          cases a3 with
          | tup h3 h4 =>
            rw [opt_kall _ _ h4] at h3
            exact ⟨_, h1, h3⟩
theorem optK_inj {a b : Option Int} (h : optK a = optK b) : a = b := by
  cases a <;> cases b <;> simp_all [optK]
theorem map_optK_inj : ∀ {a b : List (Option Int)}, a.map optK = b.map optK → a = b
  | [], [], _ => rfl
  | [], _ :: _, h => by simp at h
  | _ :: _, [], h => by simp at h
  | x :: a, y :: b, h => by
    simp only [List.map_cons, List.cons.injEq] at h
    rw [optK_inj h.1, map_optK_inj h.2]
theorem sdKey_inj {a b : Sd} (h : sdKey a = sdKey b) : a = b := by
  obtain ⟨a1, a2, a3⟩ := a
  obtain ⟨b1, b2, b3⟩ := b
  unfold sdKey at h
  simp only [NestedKey.tup.injEq, List.cons.injEq, NestedKey.num.injEq, and_true] at h
  obtain ⟨h1, h2, h3⟩ := h
  rw [h1, h2, map_optK_inj h3]
theorem depth_opt : ∀ l : List (Option Int), NestedKey.depthAll (l.map optK) ≤ 1
  | [] => by simp [NestedKey.depthAll]
  | none :: r => by have := depth_opt r; simp [NestedKey.depthAll, NestedKey.depth, optK]; omega
  | some i :: r => by have := depth_opt r; simp [NestedKey.depthAll, NestedKey.depth, optK]; omega
theorem sdKey_depth (s : Sd) : (sdKey s).depth ≤ 8 := by
  have := depth_opt s.2.2
  simp only [sdKey, NestedKey.depth, NestedKey.depthAll]
  omega
/-! ### done_at, following -/
/-- the line is turn or say, and its aim -/
def Plain (l : Ln) : Prop := (∃ x : Int, l = (("turn" : Str), [x])) ∨ ∃ m x : Int, l = (("say" : Str), [m, x])
def aim (l : Ln) : Int := l.2.getLastD 0
def noseAt (l : Ln) (n : Int) : Int := if l.1 = "turn" then (n + 1) % 4 else n
def stepS (lines : List Ln) (s : Sd) : Sd := let l := lines.getD s.1.toNat ("stop", []); (aim l, noseAt l s.2.1, s.2.2)
def spDone (K : PySem.W.Frag) : Sp := fun vs H Q _ => ∃ a t s l, vs = [.ref a, .ref t] ∧ SdAt K H a s ∧ LineAt K H t l ∧ Plain l ∧ ∀ H' b, Ex H H' → SdAt K H' b (s.1, noseAt l s.2.1, s.2.2) → Q (.ref b) H'
theorem ok_done (T : Tx w K mg) : ∃ fd, FnP K d_done_at fd ∧ FnOk Pr w K mg base CX0 1 (He.fAd K d_done_at.at_) fd ["standing", "told"] (spDone K) := by
  obtain ⟨fd, F⟩ := T.F_done_at
  obtain ⟨t1, i1⟩ := T.i_MIDDLE
  refine ⟨fd, F, F.ok sc_done_at (fun vs H Q E h => ?_) fun cdv A outer s H vs Q E hr h => ?_⟩
  · obtain ⟨a, t, s, l, rfl, _⟩ := h; rfl
  refine ⟨_, PSs.nox (pss_cons (ps_if (pt_cmpR op_eq (pe_ix ix_tup (pv 1) pe_int (fun _ _ => rfl)) pe_str (nomark _)) (pss_one (ps_ret (pe_tup (pa_cons (pe_ix ix_tup (pv 0) pe_int (fun _ _ => rfl))
      (pa_cons (pe_op op_mod (pe_op op_add (pe_ix ix_tup (pv 0) pe_int (fun _ _ => rfl)) pe_int) (pe_gint rfl i1)) (pa_cons (pe_ix ix_tup (pv 0) pe_int (fun _ _ => rfl)) pa_nil)))))) pss_nil)
    (pss_cons (ps_if (pt_cmpR op_eq (pe_ix ix_tup (pv 1) pe_int (fun _ _ => rfl)) pe_str (nomark _)) pss_never pss_nil)
    (pss_cons (ps_if (pt_cmpR op_eq (pe_ix ix_tup (pv 1) pe_int (fun _ _ => rfl)) pe_str (nomark _)) pss_never pss_nil)
    (pss_one (ps_ret (pv 0)))))), ?_⟩
  obtain ⟨a, t, s, l, rfl, ha, ht, hl, q⟩ := h
  obtain ⟨b, h1, h2⟩ := id ha
  refine ⟨_, rfl, t, _, 0, .str l.1, rfl, rfl, ht, atI_nat (j := 0) rfl, rfl, _, rfl, ?_⟩
  refine iteB (fun z => ?_) fun z => ?_
  · have e : l.1 = "turn" := V.str.inj (of_decide_eq_true z)
    refine ⟨_, rfl, a, _, 0, _, rfl, rfl, h1, atI_nat (j := 0) rfl, ?_⟩
    refine ⟨_, rfl, a, _, 1, _, rfl, rfl, h1, atI_nat (j := 1) rfl, s.2.1, 1, rfl, rfl, _, 4, rfl, rfl, (by show (0 : Int) < 4; decide), ?_⟩
    refine ⟨_, rfl, a, _, 2, _, rfl, rfl, h1, atI_nat (j := 2) rfl, (by show 3 ≤ sizeLine; decide), fun p hp => ?_⟩
    refine q _ p (Ex.new hp) ⟨b, ?_, (Ex.new hp).st h2⟩
    have en : noseAt l s.2.1 = (s.2.1 + 1) % 4 := by unfold noseAt; rw [if_pos e]
    rw [en]
    exact .of upd_same
  · have ne : l.1 ≠ "turn" := fun e => of_decide_eq_false z (by rw [e])
    have e : l.1 = "say" := by
      rcases hl with ⟨x, hx⟩ | ⟨m, x, hx⟩
      · exact absurd (by rw [hx]) ne
      · rw [hx]
    have n1 : decide (V.str l.1 = V.str "lay") = false := decide_eq_false (by rw [e]; decide)
    have n2 : decide (V.str l.1 = V.str "take") = false := decide_eq_false (by rw [e]; decide)
    refine ⟨_, rfl, t, _, 0, .str l.1, rfl, rfl, ht, atI_nat (j := 0) rfl, rfl, _, rfl, ?_⟩
    rw [n1]
    refine iteF ⟨_, rfl, t, _, 0, .str l.1, rfl, rfl, ht, atI_nat (j := 0) rfl, rfl, _, rfl, ?_⟩
    rw [n2]
    refine iteF ⟨_, rfl, q H a (Ex.refl H) ?_⟩
    have en : noseAt l s.2.1 = s.2.1 := by unfold noseAt; rw [if_neg ne]
    rw [en]
    exact ha

theorem pt_nev {X : Cx} {e : Expr} : PT X e (fun _ _ _ => False) := ⟨fun _ _ _ _ _ _ h => h.elim⟩
theorem pe_nev {X : Cx} {e : Expr} : PE X e (fun _ _ _ => False) := ⟨fun _ _ _ _ _ _ h => h.elim⟩
/-- a standing that such a mouse comes to -/
def Vd (lines : List Ln) (s : Sd) : Prop := 0 ≤ s.1 ∧ s.1 < lines.length ∧ ∀ l ∈ lines, Plain l
def spFol (K : PySem.W.Frag) : Sp := fun vs H Q _ => ∃ m a st lines s, vs = [.ref m, .ref a] ∧ MouseAt K H m st lines ∧ SdAt K H a s ∧ Vd lines s ∧ ∀ H' p b, Ex H H' → H' p = some (.lst [.ref b]) → H p = none → SdAt K H' b (stepS lines s) → Q (.ref p) H'
theorem ok_fol (T : Tx w K mg) : ∃ fd, FnP K d_following fd ∧ FnOk Pr w K mg base CX0 2 (He.fAd K d_following.at_) fd ["mouse", "standing"] (spFol K) := by
  obtain ⟨fd, F⟩ := T.F_following
  obtain ⟨fdD, FD, GD⟩ := ok_done (base := base) T
  have bD : Binds K fdD ["standing", "told"] [] := FD.bindsN fun _ _ _ _ _ _ us hl => match us, hl with | [_, _], _ => rfl
  refine ⟨fd, F, F.ok sc_following (fun vs H Q E h => ?_) fun cdv A outer s H vs Q E hr h => ?_⟩
  · obtain ⟨m, a, st, lines, s, rfl, _⟩ := h; rfl
  have nd := sc_following.nd
  refine ⟨_, PSs.nox (pss_cons (ps_set (i := 2) nd rfl (Or.inl rfl) (pe_ix ix_tup (pe_fld (pv 0) rfl) (pe_ix ix_tup (pv 1) pe_int (fun _ _ => rfl)) (fun _ _ => rfl)))
    (pss_cons (ps_if (pt_cmpR op_eq (pe_ix ix_tup (pv 2) pe_int (fun _ _ => rfl)) pe_str (nomark _)) pss_never pss_nil)
    (pss_cons (ps_if (PW.pt (pw_or (pt_cmpR op_eq (pe_ix ix_tup (pv 2) pe_int (fun _ _ => rfl)) pe_str (nomark _)) (pw_or1 (PW.pt (pw_and (pt_cmpR op_eq (pe_ix ix_tup (pv 2) pe_int (fun _ _ => rfl)) pe_str (nomark _)) (pw_and1 pt_nev)))))) pss_never pss_nil)
    (pss_cons (ps_if (pt_cmpR op_eq (pe_ix ix_tup (pv 2) pe_int (fun _ _ => rfl)) pe_str (nomark _)) pss_never pss_nil)
    (pss_cons (ps_if (pt_cmpR op_in_seq (pe_ix ix_tup (pv 2) pe_int (fun _ _ => rfl)) (pe_tup (pa_cons pe_str (pa_cons pe_str pa_nil))) (by rfl)) pss_never pss_nil)
    (pss_cons (ps_set (i := 4) nd rfl (Or.inl rfl) (pe_call GD hr rfl T.g_done_at FD.kp bD .nil pass0 (pa_cons (pv 1) (pa_cons (pv 2) pa_nil))))
    (pss_one (ps_ret (pe_ifExp (pt_cmpR op_isN (pv 4) pe_non (nomark _)) pe_nev (pe_lst (pa_cons (pe_tup (pa_cons (pe_ix ix_tup (pv 2) (pe_un un_neg pe_int) (fun _ _ => rfl)) (StX.pa_star (pe_slice sl_tup (pv 4) (po_some pe_int) po_none) pa_nil))) pa_nil))))))))))), ?_⟩
  obtain ⟨m, a, st, lines, ⟨s1, no, ss⟩, rfl, hm, ha, ⟨v0, v1, hP⟩, q⟩ := h
  obtain ⟨i, rfl⟩ := Int.eq_ofNat_of_zero_le v0
  have hi : i < lines.length := by simpa using v1
  obtain ⟨dx, L, hm1, refs, hL, hp⟩ := id hm
  obtain ⟨b, h1, h2⟩ := id ha
  have hri : i < refs.length := by rw [Paired.length hp]; exact hi
  obtain ⟨l, hl, hat⟩ := paired_at hp (List.getElem?_eq_getElem hri)
  have hPl : Plain l := hP l (List.mem_of_getElem? hl)
  have eL : (refs.map V.ref)[i]? = some (.ref refs[i]) := by rw [List.getElem?_map, List.getElem?_eq_getElem hri]; rfl
  generalize refs[i] = t at hat eL
  refine ⟨_, rfl, m, _, dx, _, .ref L, rfl, hm1, T.c_Mouse, T.a_Mouse_lines, rfl, _, rfl, a, _, 0, .int (i : Int), rfl, rfl, h1, atI_nat (j := 0) rfl, L, _, (i : Int), .ref t, rfl, rfl, hL, atI_nat eL, ?_⟩
  have hw : l.1 = "turn" ∨ l.1 = "say" := by
    rcases hPl with ⟨x, e⟩ | ⟨m, x, e⟩
    · exact .inl (by rw [e])
    · exact .inr (by rw [e])
  have nw : ∀ x : Str, x ≠ "turn" → x ≠ "say" → decide (V.str l.1 = V.str x) = false := fun x h1 h2 => decide_eq_false fun z => by
    have := V.str.inj z
    rcases hw with h | h
    · exact h1 (this.symm.trans h)
    · exact h2 (this.symm.trans h)
  refine ⟨_, rfl, t, _, 0, .str l.1, rfl, rfl, hat, atI_nat (j := 0) rfl, rfl, _, rfl, ?_⟩
  rw [nw _ (by decide) (by decide)]
  refine iteF ⟨_, rfl, t, _, 0, .str l.1, rfl, rfl, hat, atI_nat (j := 0) rfl, rfl, _, rfl, ?_⟩
  rw [nw _ (by decide) (by decide)]
  refine iteF ⟨_, rfl, t, _, 0, .str l.1, rfl, rfl, hat, atI_nat (j := 0) rfl, rfl, _, rfl, ?_⟩
  rw [nw _ (by decide) (by decide)]
  refine iteF (iteF ⟨_, rfl, t, _, 0, .str l.1, rfl, rfl, hat, atI_nat (j := 0) rfl, rfl, _, rfl, ?_⟩)
  rw [nw _ (by decide) (by decide)]
  refine iteF ⟨_, rfl, t, _, 0, .str l.1, rfl, rfl, hat, atI_nat (j := 0) rfl, by decide, fun p hp' => ?_⟩
  have e1 : Ex H (upd H p (.tup [.str "held", .str "north"])) := Ex.new hp'
  refine ⟨p, _, rfl, .inr (.of upd_same), rfl, rfl, _, rfl, ?_⟩
  have nin : inV (V.str l.1) [.str "held", .str "north"] = false := by
    rcases hw with h | h <;> rw [h] <;> decide
  refine iteB (fun z => absurd (show inV (V.str l.1) [.str "held", .str "north"] = true from z) (by rw [nin]; decide)) fun _ => ?_
  have ha1 := ha.ex e1
  have hat1 := e1.st (K := K) hat
  refine ⟨_, rfl, _, rfl, a, t, _, l, rfl, ha1, hat1, hPl, fun H2 b2 e2 hb => ?_⟩
  refine ⟨_, rfl, rfl, _, rfl, iteB (fun z => absurd (of_decide_eq_true z) (by simp)) fun _ => ?_⟩
  have e3 := e1.trans e2
  have hat2 := e2.st (K := K) hat1
  obtain ⟨b', hb1, hb2⟩ := hb
  have ea : atI (Ln.v l) (-1) = some (.int (aim l)) := by
    rcases hPl with ⟨x, e⟩ | ⟨m, x, e⟩
    · subst e; exact atI_last [V.str "turn"] (.int x)
    · subst e; exact atI_last [V.str "say", .int m] (.int x)
  refine ⟨_, rfl, 1, rfl, t, Ln.v l, -1, _, rfl, rfl, hat2, ea, ?_⟩
  refine ⟨_, rfl, 1, rfl, b2, _, rfl, hb1, whole1 _ _, fun p2 hp2 => ?_⟩
  rw [cut1]
  refine ⟨p2, _, rfl, .inl (.of upd_same), by show 3 ≤ sizeLine; decide, fun p3 hp3 => ⟨by show 1 ≤ sizeLine; decide, fun p4 hp4 => ?_⟩⟩
  have e4 := (Ex.new (o := .tup [.int (noseAt l no), .ref b']) hp2).trans (Ex.new (o := .tup [.int (aim l), .int (noseAt l no), .ref b']) hp3)
  have e5 := e4.trans (Ex.new (o := .lst [V.ref p3]) hp4)
  have n4 : H p4 = none := (e3.trans e4).back hp4
  refine q _ p4 p3 (e3.trans e5) upd_same n4 ⟨b', ?_, e5.st hb2⟩
  have es : stepS lines ((i : Int), no, ss) = (aim l, noseAt l no, ss) := by
    unfold stepS
    have : lines.getD ((i : Int).toNat) ("stop", []) = l := by simp [hl]
    simp only [this]
  rw [es]
  refine .of ?_
  have n34 : p3 ≠ p4 := ne_of_none (upd_same (o := .tup [.int (aim l), .int (noseAt l no), .ref b'])) hp4
  exact (upd_ne n34).trans upd_same
end K72

set_option Elab.async false
set_option linter.all false
set_option maxRecDepth 100000
set_option maxHeartbeats 4000000
namespace K72
open PySem PySem.Spec PyProof.Rows L2 Fs
variable {w : World} {K : PySem.W.Frag} {mg : Str → Option Value} {base : Heap}

/-! ### the standings that are come to, in plain Lean -/
def addS (row : List Sd) (o : Sd) : List Sd := if o ∈ row then row else row ++ [o]
def bfsS (lines : List Ln) (M : Nat) : Nat → List Sd → Nat → Option (List Sd)
  | 0, row, _ => some row
  | k + 1, row, at' => match row[at']? with
    | none => some row
    | some s => if M < (addS row (stepS lines s)).length then none else bfsS lines M k (addS row (stepS lines s)) (at' + 1)
def kvsOf (row : List Sd) : List (NestedKey × V) := row.zipIdx.map fun p => (sdKey p.1, V.int (p.2 : Nat))
theorem kvsOf_len (row : List Sd) : (kvsOf row).length = row.length := by simp [kvsOf]
theorem find_zip (k : NestedKey) : ∀ (row : List Sd) (n : Nat), ((row.zipIdx n).map fun p => (sdKey p.1, V.int (p.2 : Nat))).find? (fun p => decide (p.1 = k)) = none ↔ ∀ s ∈ row, sdKey s ≠ k
  | [], n => by simp
  | a :: r, n => by
    rw [List.zipIdx_cons, List.map_cons, List.find?_cons]
    by_cases h : sdKey a = k
    · simp [h]
    · rw [decide_eq_false h]
      simp only
      rw [find_zip k r (n + 1)]
      simp [h]
theorem get_none {row : List Sd} {s : Sd} : getN (kvsOf row) (sdKey s) = none ↔ s ∉ row := by
  unfold getN kvsOf
  rw [Option.map_eq_none_iff, find_zip]
  constructor
  · intro h hs
    exact h s hs rfl
  · intro h t ht e
    exact h (sdKey_inj e ▸ ht)
theorem find_at (s : Sd) : ∀ (row : List Sd) (n i : Nat), row.Nodup → row[i]? = some s → ((row.zipIdx n).map fun p => (sdKey p.1, V.int (p.2 : Nat))).find? (fun p => decide (p.1 = sdKey s)) = some (sdKey s, V.int ((n + i : Nat) : Int))
  | [], n, i, _, h => by simp at h
  | a :: r, n, i, nd, h => by
    rw [List.zipIdx_cons, List.map_cons, List.find?_cons]
    rw [List.nodup_cons] at nd
    cases i with
    | zero =>
      simp at h
      subst h
      simp
    | succ i =>
      have hr : r[i]? = some s := by simpa using h
      have ne : sdKey a ≠ sdKey s := fun e => nd.1 (sdKey_inj e ▸ List.mem_of_getElem? hr)
      rw [decide_eq_false ne]
      have := find_at s r (n + 1) i nd.2 hr
      simp only
      rw [this]
      congr 3
      omega
theorem get_at {row : List Sd} {s : Sd} {i : Nat} (nd : row.Nodup) (h : row[i]? = some s) : getN (kvsOf row) (sdKey s) = some (.int i) := by
  unfold getN kvsOf
  rw [find_at s row 0 i nd h]
  simp
theorem put_new {row : List Sd} {s : Sd} (h : s ∉ row) : putN (kvsOf row) (sdKey s) (.int row.length) = kvsOf (row ++ [s]) := by
  have hn : (kvsOf row).find? (fun p => decide (p.1 = sdKey s)) = none := by
    have := get_none.mpr h
    unfold getN at this
    rwa [Option.map_eq_none_iff] at this
  have ha : ((kvsOf row).any fun p => decide (p.1 = sdKey s)) = false := by
    rw [List.any_eq_false]
    intro x hx
    have := List.find?_eq_none.mp hn x hx
    simpa using this
  unfold putN
  rw [ha, if_neg (by decide)]
  simp [kvsOf, List.zipIdx_append]
theorem mem_some {row : List Sd} {s : Sd} : (getN (kvsOf row) (sdKey s)).isSome = decide (s ∈ row) := by
  by_cases h : s ∈ row
  · rw [decide_eq_true h]
    cases e : getN (kvsOf row) (sdKey s) with
    | none => exact absurd h (get_none.mp e)
    | some _ => rfl
  · rw [decide_eq_false h, get_none.mpr h]
    rfl
/-! ### known and row as they lie -/
structure Iv (w : World) (K : PySem.W.Frag) (lines : List Ln) (H0 : Hp) (d r : Addr) (row : List Sd) (H : Hp) : Prop where
  ex : Ex H0 H
  dn : DN Pr w K H d (kvsOf row)
  ra : ∃ as : List Addr, H r = some (.lst (as.map V.ref)) ∧ Paired (SdAt K H) as row
  nd : row.Nodup
  vd : ∀ s ∈ row, Vd lines s
  ne : d ≠ r
  n1 : H0 d = none
  n2 : H0 r = none
theorem ext_at {H : Hp} {r : Addr} {u v : HO} (h : H r = some u) (nu : ∀ ys, u ≠ .tup ys) (nf : ∀ o v, u ≠ .frz o v) : ExT H (upd H r v) := fun a xs hr => by
  rcases hr with h' | ⟨o, h'⟩
  · exact .inl ((upd_ne (fun z => by rw [z, h] at h'; exact nu _ (Option.some.inj h'))).trans h')
  · exact .inr ⟨o, (upd_ne (fun z => by rw [z, h] at h'; exact nf _ _ (Option.some.inj h'))).trans h'⟩
theorem Iv.mono {lines : List Ln} {H0 H H' : Hp} {d r : Addr} {row : List Sd} (I : Iv w K lines H0 d r row H) (e : Ex H H') : Iv w K lines H0 d r row H' :=
  let ⟨as, h1, h2⟩ := I.ra
  ⟨I.ex.trans e, I.dn.ex e, ⟨as, e _ _ h1, Fs.Paired.mono (fun _ _ z => z.ex e) h2⟩, I.nd, I.vd, I.ne, I.n1, I.n2⟩
theorem paired_snoc {α β : Type} {F : α → β → Prop} : ∀ {l : List α} {m : List β} {a : α} {b : β}, Paired F l m → F a b → Paired F (l ++ [a]) (m ++ [b])
  | _, _, _, _, .nil, h => .cons h .nil
  | _, _, _, _, .cons r t, h => .cons r (paired_snoc t h)
theorem Iv.add {lines : List Ln} {H0 H H1 : Hp} {d r b : Addr} {row : List Sd} {s : Sd} {as : List Addr} (I : Iv w K lines H0 d r row H) (hb : SdAt K H b s) (hv : Vd lines s) (hs : s ∉ row) (hr : H r = some (.lst (as.map V.ref))) (hp : Paired (SdAt K H) as row)
    (hd : DN Pr w K H1 d (putN (kvsOf row) (sdKey s) (.int row.length))) (ho : ∀ x, x ≠ d → H1 x = H x) : Iv w K lines H0 d r (row ++ [s]) (upd H1 r (.lst ((as ++ [b]).map V.ref))) := by
  obtain ⟨es, ep, x⟩ := I.dn
  have e1 : ExT H H1 := fun a xs hr => by
    rcases hr with h' | ⟨o, h'⟩
    · exact .inl ((ho a (fun z => by rw [z, x.at_] at h'; exact draw_tup (Option.some.inj h'))).trans h')
    · exact .inr ⟨o, (ho a (fun z => by rw [z, x.at_] at h'; exact draw_frz (Option.some.inj h'))).trans h'⟩
  have hr1 : H1 r = some (.lst (as.map V.ref)) := (ho r (Ne.symm I.ne)).trans hr
  have e2 : ExT H1 (upd H1 r (.lst ((as ++ [b]).map V.ref))) := ext_at hr1 (fun _ z => by cases z) (fun _ _ z => by cases z)
  have e3 : ExT H (upd H1 r (.lst ((as ++ [b]).map V.ref))) := fun a xs h => e2 a xs (e1 a xs h)
  rw [put_new hs] at hd
  refine ⟨fun a o h => ?_, hd.stay (upd_ne I.ne) e2, ⟨as ++ [b], upd_same, ?_⟩, ?_, ?_, I.ne, I.n1, I.n2⟩
  · rw [upd_ne (ne_of_none h I.n2), ho a (ne_of_none h I.n1)]
    exact I.ex a o h
  · exact paired_snoc (Fs.Paired.mono (fun _ _ z => z.ext e3) hp) (hb.ext e3)
  · exact List.nodup_append.mpr ⟨I.nd, by simp, fun a ha b hb => by simp at hb; subst hb; exact fun e => hs (e ▸ ha)⟩
  · intro t ht
    rcases List.mem_append.mp ht with h | h
    · exact I.vd t h
    · simp at h; subst h; exact hv
end K72

set_option Elab.async false
set_option linter.all false
set_option maxRecDepth 100000
set_option maxHeartbeats 4000000
namespace K72
open PySem PySem.Spec PyProof.Rows L2 Fs
variable {w : World} {K : PySem.W.Frag} {mg : Str → Option Value} {base : Heap}

def atOf (σ : L2.St) : Nat := match (σ[6]? : Option (Option V)) with
  | some (some (V.int i)) => i.toNat
  | _ => 0
def firstS (st side : Int) : Sd := (0, side, List.replicate st.toNat none)
def LinesOk (lines : List Ln) : Prop := 1 ≤ lines.length ∧ ∀ l ∈ lines, Plain l ∧ 0 ≤ aim l ∧ aim l < lines.length ∧ 0 ≤ l.2.headD 0 ∧ l.2.headD 0 ≤ 1000000000
def standS (lines : List Ln) (st side : Int) (M : Nat) : Option (List Sd) := bfsS lines M (M + 1) [firstS st side] 0
def spStand (w : World) (K : PySem.W.Frag) : Sp := fun vs H Q _ => ∃ (m : Addr) (st side : Int) (lines : List Ln) (M : Nat), vs = [.ref m, .int side, .int (M : Nat)] ∧ MouseAt K H m st lines ∧ LinesOk lines ∧ 0 ≤ st ∧ st ≤ 12 ∧ 1 ≤ M ∧ M ≤ 20000 ∧
  (standS lines st side M = none → ∀ H', Ex H H' → Q .non H') ∧ (∀ row, standS lines st side M = some row → row.Nodup → row.length ≤ M → (∀ s ∈ row, Vd lines s) → ∀ H' d, Ex H H' → DN Pr w K H' d (kvsOf row) → H d = none → Q (.ref d) H')
theorem step_vd {lines : List Ln} {s : Sd} (h : LinesOk lines) (v : Vd lines s) : Vd lines (stepS lines s) := by
  obtain ⟨s1, no, ss⟩ := s
  obtain ⟨v0, v1, v2⟩ := v
  obtain ⟨i, rfl⟩ := Int.eq_ofNat_of_zero_le v0
  have hi : i < lines.length := by simpa using v1
  have hl : lines.getD ((i : Int).toNat) ("stop", []) = lines[i] := by simp [hi]
  have hm : lines[i] ∈ lines := List.getElem_mem hi
  unfold stepS
  simp only [hl]
  exact ⟨(h.2 _ hm).2.1, (h.2 _ hm).2.2.1, v2⟩
theorem ok_stand (T : Tx w K mg) : ∃ fd, FnP K d_standings_in fd ∧ FnOk Pr w K mg base CX0 3 (He.fAd K d_standings_in.at_) fd ["mouse", "side", "most"] (spStand w K) := by
  obtain ⟨fd, F⟩ := T.F_standings_in
  obtain ⟨fdF, FF, GF⟩ := ok_fol (base := base) T
  have bF : Binds K fdF ["mouse", "standing"] [] := FF.bindsN fun _ _ _ _ _ _ us hl => match us, hl with | [_, _], _ => rfl
  refine ⟨fd, F, F.ok sc_standings_in (fun vs H Q E h => ?_) fun cdv A outer s H vs Q E hr h => ?_⟩
  · obtain ⟨m, st, side, lines, M, rfl, _⟩ := h; rfl
  have nd := sc_standings_in.nd
  have hu : (A.deeper (envOfC d_standings_in.qual d_standings_in.scope s.heap.objs.size (He.fAd K d_standings_in.at_) cdv)).units + 64 < cLine := hr.units
  refine ⟨_, PSs.nox (pss_cons (ps_set (i := 3) nd rfl (Or.inl rfl) (pe_tup (pa_cons pe_int (pa_cons (pv 1) (pa_cons (pe_op op_repA (pe_tup (pa_cons pe_non pa_nil)) (pe_fld (pv 0) rfl)) pa_nil)))))
    (pss_cons (ps_par3 (i := 4) (j := 5) (l := 6) rfl nd rfl rfl rfl (by decide) (by decide) (by decide) rfl rfl rfl (pa_cons (pe_dispN hu (pps_cons (pv 3) pe_int pps_nil) (by rfl) (by rfl) (fun z => by cases z) (by decide)) (pa_cons (pe_lst (pa_cons (pv 3) pa_nil)) (pa_cons pe_int pa_nil))) (by rfl))
    (pss_cons (ps_while PassesOwn.never (pt_cmpR op_lt (pv 6) (pe_callB (r := rLenQ K) call_lenQ rfl T.n_len (by decide +kernel) (pa_cons (pv 5) pa_nil)) (nomark _))
      (pss_cons (ps_for PassesOwn.never rfl (pi_list (pe_call GF hr rfl T.g_following FF.kp bF .nil pass0 (pa_cons (pv 0) (pa_cons (pe_ix ix_list (pv 5) (pv 6) (fun _ _ => rfl)) pa_nil)))) (pg_name (i := 7) nd rfl (Or.inl rfl))
        (pss_one (ps_if (pt_cmpR (op_notInN hu) (pv 7) (pv 4) (by rfl)) (pss_cons (ps_asg (pe_callB (r := rLenQ K) call_lenQ rfl T.n_len (by decide +kernel) (pa_cons (pv 5) pa_nil)) (pg_sub (pv 4) (pv 7) (set_dn hu)))
          (pss_one (ps_expr (pe_bm PySem.F.plainAttrs_list PySem.F.slot_list_append PySem.F.type_list_append mt_append (pv 5) (pa_cons (pv 7) pa_nil))))) pss_nil)))
      (pss_cons (ps_set (i := 6) nd rfl (Or.inl rfl) (pe_op op_add (pv 6) pe_int))
      (pss_one (ps_if (pt_cmpR op_gt (pe_callB (r := rLenQ K) call_lenQ rfl T.n_len (by decide +kernel) (pa_cons (pv 5) pa_nil)) (pv 2) (nomark _)) (pss_one (ps_ret pe_non)) pss_nil)))))
    (pss_one (ps_ret (pv 4)))))), ?_⟩
  obtain ⟨m, st, side, lines, M, rfl, hm, hok, st0, st12, M1, M2, qn, qs⟩ := h
  obtain ⟨dx, L, hm1, hL⟩ := id hm
  refine ⟨_, rfl, by decide, fun t0 ht0 => ?_⟩
  have e0 : Ex H (upd H t0 (.tup [.non])) := Ex.new ht0
  refine ⟨_, rfl, m, _, dx, _, .int st, rfl, e0 _ _ hm1, T.c_Mouse, T.a_Mouse_stones, rfl, t0, st, [.non], rfl, rfl, .of upd_same, by simp, st0, by omega, by decide, fun sp H1 e1 hsp => ?_⟩
  refine ⟨by show 3 ≤ sizeLine; decide, fun f hf => ?_⟩
  have e2 : Ex H (upd H1 f (.tup [.int 0, .int side, .ref sp])) := (e0.trans e1).trans (Ex.new hf)
  have hfs : SdAt K (upd H1 f (.tup [.int 0, .int side, .ref sp])) f (firstS st side) := by
    refine ⟨sp, .of upd_same, ?_⟩
    have := (Ex.new (o := .tup [.int 0, .int side, .ref sp]) hf).st hsp
    have ee : (List.replicate st.toNat [V.non]).flatten = (firstS st side).2.2.map optV := by
      unfold firstS
      rw [List.map_replicate]
      generalize st.toNat = n
      induction n with
      | zero => rfl
      | succ n ih => rw [List.replicate_succ, List.replicate_succ, List.flatten_cons, ih]; rfl
    rw [ee] at this
    exact this
  generalize upd H1 f (.tup [.int 0, .int side, .ref sp]) = H2 at e2 hfs
  intro d H3 hd hdn3 ho3
  have e23 : Ex H2 H3 := fun a o h => (ho3 a (ne_of_none h hd)).trans h
  refine ⟨_, rfl, hdn3, [(sdKey (firstS st side), .int 0)], .cons ⟨⟨f, rfl⟩, (hfs.ex e23).key, sdKey_depth _, rfl⟩ .nil, by simp, fun H4 hdn4 ho4 => ?_⟩
  have e24 : Ex H2 H4 := fun a o h => (ho4 a (ne_of_none h hd)).trans (e23 a o h)
  refine ⟨_, rfl, by show 1 ≤ sizeLine; decide, fun r hr => ?_⟩
  refine ⟨_, _, _, rfl, ?_⟩
  have hdr : d ≠ r := by
    obtain ⟨o, ho⟩ := hdn4.some
    exact ne_of_none ho hr
  have hH5 : Iv w K lines H d r [firstS st side] (upd H4 r (.lst [.ref f])) := by
    refine ⟨(e2.trans e24).trans (Ex.new hr), (hdn4.ex (Ex.new hr)), ⟨[f], upd_same, .cons ((hfs.ex e24).ex (Ex.new hr)) .nil⟩, by simp, ?_, hdr, e2.back hd, (e2.trans e24).back hr⟩
    intro s hs
    simp at hs
    subst hs
    exact ⟨by simp [firstS], by have := hok.1; simp [firstS]; omega, fun l hl => (hok.2 l hl).1⟩
  generalize upd H4 r (.lst [.ref f]) = H5 at hH5
  have h20 : (20010 : Nat) < sizeLine := by decide
  refine while_by (fun σ H' => ∃ row at' o7, σ = [some (.ref m), some (.int side), some (.int (M : Nat)), some (.ref f), some (.ref d), some (.ref r), some (.int (at' : Nat)), o7] ∧ Iv w K lines H d r row H' ∧ at' ≤ row.length ∧ row.length ≤ M ∧ bfsS lines M (M + 1 - at') row at' = standS lines st side M)
    (fun σ _ => M + 1 - atOf σ) ⟨[firstS st side], 0, none, rfl, hH5, Nat.zero_le _, M1, rfl⟩ (fun σ H' hv => ?_) (fun σ H' Q1 Q2 hm h => ?_)
  · obtain ⟨row, at', o7, rfl, I, hat, hrM, hb⟩ := hv
    obtain ⟨as, hr', hp⟩ := I.ra
    have hlen : as.length = row.length := Paired.length hp
    refine ⟨_, rfl, _, rfl, r, _, rfl, .inl (.of hr'), _, _, rfl, rfl, _, rfl, iteB (fun z => ?_) fun z => ?_⟩
    · have hlt : at' < row.length := by
        have := of_decide_eq_true z
        simp at this
        omega
      have hs : row[at']? = some row[at'] := List.getElem?_eq_getElem hlt
      generalize row[at'] = s at hs
      have hla : at' < as.length := by omega
      obtain ⟨s', hs', hsd⟩ := paired_at hp (List.getElem?_eq_getElem hla)
      rw [hs] at hs'
      cases hs'
      have ea : (as.map V.ref)[at']? = some (.ref as[at']) := by rw [List.getElem?_map, List.getElem?_eq_getElem hla]; rfl
      generalize as[at'] = a at hsd ea
      have hvs : Vd lines s := I.vd s (List.mem_of_getElem? hs)
      refine ⟨_, rfl, _, rfl, _, rfl, r, _, _, .ref a, rfl, rfl, .of hr', atI_nat ea, m, a, st, lines, s, rfl, hm.ex I.ex, hsd, hvs, fun H6 p b e6 hp6 np hb6 => ?_⟩
      refine ⟨p, rfl, ⟨_, .of hp6⟩, ?_⟩
      have I6 := I.mono e6
      have hvs' := step_vd hok hvs
      generalize hs2 : stepS lines s = s2 at hb6 hvs'
      have npd : p ≠ d := by
        obtain ⟨o, ho⟩ := I.dn.some
        exact Ne.symm (ne_of_none ho np)
      have npr : p ≠ r := Ne.symm (ne_of_none hr' np)
      refine for_list (K := K) (a := p) (xs := [.ref b]) (fun i σ' H' => H' p = some (.lst [.ref b]) ∧ ((i = 0 ∧ σ' = [some (.ref m), some (.int side), some (.int (M : Nat)), some (.ref f), some (.ref d), some (.ref r), some (.int (at' : Nat)), o7] ∧ Iv w K lines H d r row H' ∧ SdAt K H' b s2) ∨
        (i = 1 ∧ σ' = [some (.ref m), some (.int side), some (.int (M : Nat)), some (.ref f), some (.ref d), some (.ref r), some (.int (at' : Nat)), some (.ref b)] ∧ Iv w K lines H d r (addS row s2) H'))) ⟨hp6, .inl ⟨rfl, rfl, I6, hb6⟩⟩ (fun i σ' H' _ z => .of z.1) (fun i x σ' H' hx z => ?_) (fun σ' H' z => ?_)
      · obtain ⟨z1, z2⟩ := z
        rcases z2 with ⟨rfl, rfl, J, hbb⟩ | ⟨rfl, _⟩
        · have ex : x = .ref b := by simpa using hx.symm
          subst ex
          refine ⟨_, rfl, _, rfl, b, d, sdKey s2, kvsOf row, rfl, rfl, hbb.key, sdKey_depth _, J.dn, _, rfl, iteB (fun z => ?_) fun z => ?_⟩
          · have hni : s2 ∉ row := by
              have z' : (!(getN (kvsOf row) (sdKey s2)).isSome) = true := z
              rw [mem_some] at z'
              simpa using z'
            obtain ⟨as2, hr2, hp2⟩ := J.ra
            have hl2 : as2.length = row.length := Paired.length hp2
            refine ⟨_, rfl, r, _, rfl, .inl (.of hr2), _, rfl, _, rfl, b, d, sdKey s2, kvsOf row, rfl, rfl, hbb.key, sdKey_depth _, J.dn, by rw [kvsOf_len]; omega, fun H7 hd7 ho7 => ?_⟩
            have hr7 : H7 r = some (.lst (as2.map V.ref)) := (ho7 r (Ne.symm J.ne)).trans hr2
            refine ⟨_, rfl, .inl ⟨rfl, _, .of hr7⟩, _, rfl, r, _, _, rfl, rfl, hr7, by rw [List.length_map]; omega, ?_⟩
            refine ⟨?_, .inr ⟨rfl, rfl, ?_⟩⟩
            · rw [upd_ne npr, ho7 p npd]
              exact z1
            · have hd7' : DN Pr w K H7 d (putN (kvsOf row) (sdKey s2) (.int row.length)) := by
                have : ((as2.map V.ref).length : Int) = (row.length : Int) := by rw [List.length_map, hl2]
                rw [this] at hd7
                exact hd7
              have := J.add hbb hvs' hni hr2 hp2 hd7' ho7
              rw [List.map_append] at this
              unfold addS
              rw [if_neg hni]
              exact this
          · have hni : s2 ∈ row := by
              have z' : (!(getN (kvsOf row) (sdKey s2)).isSome) = false := z
              rw [mem_some] at z'
              simpa using z'
            refine ⟨z1, .inr ⟨rfl, rfl, ?_⟩⟩
            unfold addS
            rw [if_pos hni]
            exact J
        · simp at hx
      · obtain ⟨z1, z2⟩ := z
        rcases z2 with ⟨h0, _⟩ | ⟨_, rfl, J⟩
        · simp at h0
        · have hk : M + 1 - at' = (M - at') + 1 := by omega
          have hbs : standS lines st side M = if M < (addS row s2).length then none else bfsS lines M (M - at') (addS row s2) (at' + 1) := by
            rw [← hb, hk]
            show (match row[at']? with | none => some row | some s => if M < (addS row (stepS lines s)).length then none else bfsS lines M (M - at') (addS row (stepS lines s)) (at' + 1)) = _
            rw [hs]
            show (if M < (addS row (stepS lines s)).length then none else bfsS lines M (M - at') (addS row (stepS lines s)) (at' + 1)) = _
            rw [hs2]
          obtain ⟨as2, hr2, hp2⟩ := J.ra
          have hl2 : as2.length = (addS row s2).length := Paired.length hp2
          have hge : row.length ≤ (addS row s2).length := by unfold addS; split <;> simp
          have hle : (addS row s2).length ≤ row.length + 1 := by unfold addS; split <;> simp
          refine ⟨_, rfl, _, 1, rfl, rfl, ?_⟩
          refine ⟨_, rfl, r, _, rfl, .inl (.of hr2), _, rfl, _, _, rfl, rfl, _, rfl, iteB (fun z => ?_) fun z => ?_⟩
          · have hgt : M < (addS row s2).length := by
              have := of_decide_eq_true z
              simp at this
              omega
            rw [if_pos hgt] at hbs
            exact qn hbs H' J.ex
          · have hgt : ¬ M < (addS row s2).length := by
              have := of_decide_eq_false z
              simp at this
              omega
            rw [if_neg hgt] at hbs
            refine ⟨⟨addS row s2, at' + 1, some (.ref b), rfl, J, by omega, by omega, ?_⟩, ?_⟩
            · have : M + 1 - (at' + 1) = M - at' := by omega
              rw [this, hbs]
            · show M + 1 - ((at' : Int) + 1).toNat < M + 1 - ((at' : Int)).toNat
              omega
    · have heq : at' = row.length := by
        have := of_decide_eq_false z
        simp at this
        omega
      have hk : M + 1 - at' = (M - at') + 1 := by omega
      have hbs : standS lines st side M = some row := by
        rw [← hb, hk]
        show (match row[at']? with | none => some row | some s => if M < (addS row (stepS lines s)).length then none else bfsS lines M (M - at') (addS row (stepS lines s)) (at' + 1)) = _
        rw [List.getElem?_eq_none (by omega)]
      exact ⟨_, rfl, qs row hbs I.nd hrM I.vd H' d I.ex I.dn I.n1⟩
  · obtain ⟨v1, a1, v2, a2, p, ys, a3, a4, i, j, a5, a6, k, a7, q⟩ := h
    exact ⟨v1, a1, v2, a2, p, ys, a3, a4, i, j, a5, a6, k, a7, hm _ _ q⟩
end K72

set_option Elab.async false
set_option linter.all false
set_option maxRecDepth 100000
set_option maxHeartbeats 4000000
namespace K72
open PySem PySem.Spec PyProof.Rows L2 Fs
variable {w : World} {K : PySem.W.Frag} {mg : Str → Option Value} {base : Heap}

/-- the reckoner's line for a standing whose follower has the number j -/
def rline (l : Ln) (j : Nat) : Ln := if l.1 = "say" then ("say", [l.2.headD 0, (j : Int)]) else ("copy", [0, 0, (j : Int)])
def spLineAt (w : World) (K : PySem.W.Frag) : Sp := fun vs H Q _ => ∃ m d a st lines s row j, vs = [.ref m, .ref d, .ref a] ∧ MouseAt K H m st lines ∧ DN Pr w K H d (kvsOf row) ∧ row.Nodup ∧ SdAt K H a s ∧ Vd lines s ∧ row[j]? = some (stepS lines s) ∧
  ∀ H' b, Ex H H' → LineAt K H' b (rline (lines.getD s.1.toNat ("stop", [])) j) → Q (.ref b) H'
theorem ok_lineAt (T : Tx w K mg) : ∃ fd, FnP K d_line_at fd ∧ FnOk Pr w K mg base CX0 3 (He.fAd K d_line_at.at_) fd ["mouse", "known", "standing"] (spLineAt w K) := by
  obtain ⟨fd, F⟩ := T.F_line_at
  obtain ⟨fdF, FF, GF⟩ := ok_fol (base := base) T
  have bF : Binds K fdF ["mouse", "standing"] [] := FF.bindsN fun _ _ _ _ _ _ us hl => match us, hl with | [_, _], _ => rfl
  refine ⟨fd, F, F.ok sc_line_at (fun vs H Q E h => ?_) fun cdv A outer s H vs Q E hr h => ?_⟩
  · obtain ⟨m, d, a, st, lines, s, row, j, rfl, _⟩ := h; rfl
  have nd := sc_line_at.nd
  have hu : (A.deeper (envOfC d_line_at.qual d_line_at.scope s.heap.objs.size (He.fAd K d_line_at.at_) cdv)).units + 64 < cLine := hr.units
  refine ⟨_, PSs.nox (pss_cons (ps_par (i := 3) (j := 4) rfl nd rfl rfl (by decide) rfl rfl (pa_cons (pe_ix ix_tup (pe_fld (pv 0) rfl) (pe_ix ix_tup (pv 2) pe_int (fun _ _ => rfl)) (fun _ _ => rfl))
      (pa_cons (pe_lc (own := [("other", 5)]) (g := gName 5) (tt := tYes) (te := tOp (rIxN Pr w K) (tVar 1) (tVar 5)) rfl nd (pi_list (pe_call GF hr rfl T.g_following FF.kp bF .nil pass0 (pa_cons (pv 0) (pa_cons (pv 2) pa_nil)))) (blkOk_by (N := N_line_at) (sc := defScope s_line_at) (by decide +kernel))
        (fun _ _ _ _ _ => pg_name (i := 5) nd rfl (Or.inl rfl)) (fun _ _ _ _ _ => pts_nil)
        (fun _ _ _ _ _ => pe_ix (ix_dn hu) (pv 1) (pv 5) (fun _ _ => rfl))) pa_nil)) (by rfl))
    (pss_cons (ps_par (i := 6) (j := 7) rfl nd rfl rfl (by decide) rfl rfl (pa_cons (pe_ix ix_tup (pv 3) pe_int (fun _ _ => rfl)) (pa_cons (pe_callB call_lenN rfl T.n_len (by decide +kernel) (pa_cons (pv 1) pa_nil)) pa_nil)) (by rfl))
    (pss_cons (ps_if (PW.pt (pw_or (pt_cmpR op_eq (pv 6) pe_str (nomark _)) (pw_or1 (pt_cmpR (op_eqD hu) (pv 4) (pe_lst pa_nil) (nomark _))))) pss_never pss_nil)
    (pss_cons (ps_if (pt_cmpR op_eq (pv 6) pe_str (nomark _)) pss_never pss_nil)
    (pss_cons (ps_if (pt_cmpR op_eq (pv 6) pe_str (nomark _)) (pss_one (ps_ret (pe_tup (pa_cons (pv 6) (pa_cons (pe_ix ix_tup (pv 3) pe_int (fun _ _ => rfl)) (pa_cons (pe_ix ix_list (pv 4) pe_int (fun _ _ => rfl)) pa_nil)))))) pss_nil)
    (pss_cons (ps_if (pt_cmpR op_eq (pv 6) pe_str (nomark _)) pss_never pss_nil)
    (pss_cons (ps_if (pt_cmpR op_eq (pv 6) pe_str (nomark _)) pss_never pss_nil)
    (pss_cons (ps_if (PW.pt (pw_or (pt_cmpR op_eq (pv 6) pe_str (nomark _)) (pw_or1 (pt_cmpR op_eq (pe_callB (r := rLenQ K) call_lenQ rfl T.n_len (by decide +kernel) (pa_cons (pv 4) pa_nil)) pe_int (nomark _))))) pss_never pss_nil)
    (pss_one (ps_ret (pe_tup (pa_cons pe_str (pa_cons pe_int (pa_cons pe_int (pa_cons (pe_ix ix_list (pv 4) pe_int (fun _ _ => rfl)) pa_nil))))))))))))))), ?_⟩
  obtain ⟨m, d, a, st, lines, ⟨s1, no, ss⟩, row, j, rfl, hm, hdn, hnd, ha, ⟨v0, v1, hP⟩, hj, q⟩ := h
  have hvd : Vd lines (s1, no, ss) := ⟨v0, v1, hP⟩
  obtain ⟨i, rfl⟩ := Int.eq_ofNat_of_zero_le v0
  have hi : i < lines.length := by simpa using v1
  obtain ⟨dx, L, hm1, refs, hL, hp⟩ := id hm
  obtain ⟨b0, h1, h2⟩ := id ha
  have hri : i < refs.length := by rw [Paired.length hp]; exact hi
  obtain ⟨l, hl, hat⟩ := paired_at hp (List.getElem?_eq_getElem hri)
  have hPl : Plain l := hP l (List.mem_of_getElem? hl)
  have eL : (refs.map V.ref)[i]? = some (.ref refs[i]) := by rw [List.getElem?_map, List.getElem?_eq_getElem hri]; rfl
  generalize refs[i] = t at hat eL
  have egl : lines.getD ((i : Int).toNat) ("stop", []) = l := by simp [hl]
  rw [egl] at q
  refine ⟨_, rfl, m, _, dx, _, .ref L, rfl, hm1, T.c_Mouse, T.a_Mouse_lines, rfl, _, rfl, a, _, 0, .int (i : Int), rfl, rfl, h1, atI_nat (j := 0) rfl, L, _, (i : Int), .ref t, rfl, rfl, hL, atI_nat eL, ?_⟩
  refine ⟨_, rfl, _, rfl, m, a, st, lines, _, rfl, hm, ha, hvd, fun H1 p b e1 hp1 np hb => ?_⟩
  refine ⟨p, rfl, ⟨_, .of hp1⟩, fun D hD => ?_⟩
  generalize stepS lines ((i : Int), no, ss) = s2 at hj hb
  refine lc_list (K := K) (a := p) (xs := [.ref b]) (fun i H' => Ex H1 H' ∧ H' D = some (.lst (if i = 0 then [] else [.int (j : Nat)]))) ⟨Ex.new hD, upd_same⟩ (fun i H' hi z => .of (z.1 _ _ hp1)) (fun i x H' hx z => ?_) (fun H2 z => ?_)
  · obtain ⟨z1, z2⟩ := z
    cases i with
    | succ i => simp at hx
    | zero =>
      have ex : x = .ref b := by simpa using hx.symm
      subst ex
      have e2 := e1.trans z1
      refine ⟨rfl, yes_if ⟨_, rfl, _, rfl, b, d, sdKey s2, kvsOf row, _, rfl, rfl, (hb.ex z1).key, sdKey_depth _, hdn.ex e2, get_at hnd hj, [], z2, by decide, Ex.upd z1 hD, ?_⟩⟩
      rw [upd_same]
      rfl
  obtain ⟨z1, z2⟩ := z
  have e2 := e1.trans z1
  have z2' : H2 D = some (.lst [.int (j : Nat)]) := z2
  refine ⟨_, _, rfl, ?_⟩
  have hat2 := e2.st (K := K) hat
  refine ⟨_, rfl, t, _, 0, .str l.1, rfl, rfl, hat2, atI_nat (j := 0) rfl, _, rfl, d, kvsOf row, rfl, hdn.ex e2, _, _, rfl, ?_⟩
  have hw : l.1 = "turn" ∨ l.1 = "say" := by
    rcases hPl with ⟨x, e⟩ | ⟨m, x, e⟩
    · exact .inl (by rw [e])
    · exact .inr (by rw [e])
  have nw : ∀ x : Str, x ≠ "turn" → x ≠ "say" → decide (V.str l.1 = V.str x) = false := fun x h1 h2 => decide_eq_false fun z => by
    have := V.str.inj z
    rcases hw with h | h
    · exact h1 (this.symm.trans h)
    · exact h2 (this.symm.trans h)
  refine ⟨_, rfl, rfl, _, rfl, ?_⟩
  rw [nw _ (by decide) (by decide)]
  refine iteF ⟨_, rfl, by decide, fun z hz => ?_⟩
  have e3 : Ex H (upd H2 z (.lst [])) := e2.trans (Ex.new hz)
  have hat3 := e3.st (K := K) hat
  have nDz : D ≠ z := ne_of_none z2' hz
  have hD3 : upd H2 z (.lst []) D = some (.lst [.int (j : Nat)]) := (upd_ne nDz).trans z2'
  refine ⟨.list [.int j], .list [], .lst (.of hD3) (.cons (.int _) .nil), .lst (.of upd_same) .nil, rfl, rfl, _, rfl, ?_⟩
  have eqf : PyData.eqv (.list [.int (j : Nat)]) (.list []) = false := by rfl
  rw [eqf]
  generalize upd H2 z (.lst []) = H3 at e3 hat3 hD3
  refine iteF ⟨_, rfl, rfl, _, rfl, ?_⟩
  rw [nw _ (by decide) (by decide)]
  refine iteF ⟨_, rfl, rfl, _, rfl, iteB (fun z => ?_) fun z => ?_⟩
  · have es : l.1 = "say" := V.str.inj (of_decide_eq_true z)
    obtain ⟨mm, x, el⟩ : ∃ mm x : Int, l = (("say" : Str), [mm, x]) := by
      rcases hPl with ⟨x, e⟩ | ⟨mm, x, e⟩
      · rw [e] at es; exact absurd (show ("turn" : Str) = "say" from es) (by decide)
      · exact ⟨mm, x, e⟩
    subst el
    refine ⟨_, rfl, _, rfl, t, _, 1, .int mm, rfl, rfl, hat3, atI_nat (j := 1) rfl, _, rfl, D, [.int (j : Nat)], 0, .int (j : Nat), rfl, rfl, .of hD3, atI_nat (j := 0) rfl, by show 3 ≤ sizeLine; decide, fun r hr => ?_⟩
    exact q _ r (e3.trans (Ex.new hr)) (.of upd_same)
  · have es : l.1 ≠ "say" := fun e => of_decide_eq_false z (by rw [e])
    refine ⟨_, rfl, rfl, _, rfl, ?_⟩
    rw [nw _ (by decide) (by decide)]
    refine iteF ⟨_, rfl, rfl, _, rfl, ?_⟩
    rw [nw _ (by decide) (by decide)]
    refine iteF ⟨_, rfl, rfl, _, rfl, ?_⟩
    rw [nw _ (by decide) (by decide)]
    refine iteF ⟨_, rfl, D, _, rfl, .inl (.of hD3), rfl, _, rfl, iteB (fun z => absurd (of_decide_eq_true z) (by simp)) fun _ => ?_⟩
    refine ⟨_, rfl, D, [.int (j : Nat)], 0, .int (j : Nat), rfl, rfl, .of hD3, atI_nat (j := 0) rfl, by show 4 ≤ sizeLine; decide, fun r hr => ?_⟩
    refine q _ r (e3.trans (Ex.new hr)) ?_
    have er : rline l j = (("copy" : Str), [0, 0, (j : Int)]) := by unfold rline; rw [if_neg es]
    rw [er]
    exact .of upd_same

/-! ### standings_of -/
def spStandOf (K : PySem.W.Frag) : Sp := fun vs H Q _ => ∃ m st side lines row, vs = [.ref m, .int side] ∧ MouseAt K H m st lines ∧ LinesOk lines ∧ 0 ≤ st ∧ st ≤ 12 ∧ 0 ≤ side ∧ side ≤ 3 ∧ standS lines st side 20000 = some row ∧ ∀ H', Ex H H' → Q (.int (row.length : Nat)) H'
theorem bNM {fd : FuncData} (F : FnP K d_need_mouse fd) : ∃ ds, Vals [V.str "mouse"] ds ∧ L2.Binds K fd ["value", "part"] ds :=
  F.binds1 1 0 (by simp [d_need_mouse, He.DefD.dvs]) rfl fun T kV doc pm an cdv ct us its hl hi => match us, its, hl, hi with
    | [_], [_], _, _ => ⟨_, rfl, rfl⟩
theorem bNS {fd : FuncData} (F : FnP K d_need_side fd) : ∃ ds, Vals [V.str "side"] ds ∧ L2.Binds K fd ["value", "part"] ds :=
  F.binds1 1 0 (by simp [d_need_side, He.DefD.dvs]) rfl fun T kV doc pm an cdv ct us its hl hi => match us, its, hl, hi with
    | [_], [_], _, _ => ⟨_, rfl, rfl⟩
theorem side_in {i : Int} (h0 : 0 ≤ i) (h3 : i ≤ 3) : sideOk (.int i) = true := by simp [sideOk, h0, h3]
theorem ok_standOf (T : Tx w K mg) : ∃ fd, FnP K d_standings_of fd ∧ FnOk Pr w K mg base CX0 5 (He.fAd K d_standings_of.at_) fd ["mouse", "side"] (spStandOf K) := by
  obtain ⟨fd, F⟩ := T.F_standings_of
  obtain ⟨fdM, FM, GM⟩ := ok_needMouse (base := base) T
  obtain ⟨fdS, FS, GS⟩ := ok_needSide (base := base) T
  obtain ⟨fdI, FI, GI⟩ := ok_stand (base := base) T
  obtain ⟨dM, vM, bM⟩ := bNM FM
  obtain ⟨dS, vS, bS⟩ := bNS FS
  have bI : Binds K fdI ["mouse", "side", "most"] [] := FI.bindsN fun _ _ _ _ _ _ us hl => match us, hl with | [_, _, _], _ => rfl
  obtain ⟨t1, i1⟩ := T.i_MOST_STANDINGS
  refine ⟨fd, F, F.ok sc_standings_of (fun vs H Q E h => ?_) fun cdv A outer s H vs Q E hr h => ?_⟩
  · obtain ⟨m, st, side, lines, row, rfl, _⟩ := h; rfl
  have nd := sc_standings_of.nd
  refine ⟨_, PSs.nox (pss_cons (ps_expr (pe_call (E := E0) GM hr rfl T.g_need_mouse FM.kp bM vM passL (pa_cons (pv 0) pa_nil)))
    (pss_cons (ps_expr (pe_call (E := E0) GS hr rfl T.g_need_side FS.kp bS vS passL (pa_cons (pv 1) pa_nil)))
    (pss_cons (ps_set (i := 2) nd rfl (Or.inl rfl) (pe_call GI (hr.mono (by decide)) rfl T.g_standings_in FI.kp bI .nil pass0 (pa_cons (pv 0) (pa_cons (pv 1) (pa_cons (pe_gint rfl i1) pa_nil)))))
    (pss_cons (ps_if (pt_cmpR op_isN (pv 2) pe_non (nomark _)) pss_never pss_nil)
    (pss_one (ps_ret (pe_callB call_lenN rfl T.n_len (by decide +kernel) (pa_cons (pv 2) pa_nil)))))))), ?_⟩
  obtain ⟨m, st, side, lines, row, rfl, hm, hok, st0, st12, s0, s3, hrow, q⟩ := h
  obtain ⟨dx, L, hm1, _⟩ := id hm
  refine ⟨_, rfl, .ref m, "mouse", rfl, .inr ⟨m, dx, _, rfl, hm1, ?_⟩⟩
  refine ⟨_, rfl, .int side, "side", rfl, .inl ⟨side, rfl⟩, fun _ => ?_, fun z => absurd z (by rw [side_in s0 s3]; decide)⟩
  refine ⟨_, rfl, _, rfl, m, st, side, lines, 20000, rfl, hm, hok, st0, st12, by decide, by decide, (fun z => absurd (hrow.symm.trans z) (by simp)), fun row' hrow' nd' hl' vd' H1 d e1 hdn hnd => ?_⟩
  rw [hrow] at hrow'
  cases hrow'
  refine ⟨_, rfl, rfl, _, rfl, iteB (fun z => absurd (of_decide_eq_true z) (by simp)) fun _ => ?_⟩
  refine ⟨_, rfl, d, kvsOf row, rfl, hdn, ?_⟩
  rw [kvsOf_len]
  exact q H1 e1
end K72

set_option Elab.async false
set_option linter.all false
set_option maxRecDepth 100000
set_option maxHeartbeats 4000000
namespace K72
open PySem PySem.Spec PyProof.Rows L2 Fs
variable {w : World} {K : PySem.W.Frag} {mg : Str → Option Value} {base : Heap}

/-! ### plain: what comes is closed -/
theorem addS_sub {row : List Sd} {o s : Sd} (h : s ∈ row) : s ∈ addS row o := by
  unfold addS
  split
  · exact h
  · exact List.mem_append_left _ h
theorem addS_new {row : List Sd} {o : Sd} : o ∈ addS row o := by
  unfold addS
  split
  · assumption
  · simp
theorem addS_pre {row : List Sd} {o : Sd} {i : Nat} (h : i < row.length) : (addS row o)[i]? = row[i]? := by
  unfold addS
  split
  · rfl
  · rw [List.getElem?_append_left h]
theorem bfs_closed {lines : List Ln} {M : Nat} : ∀ (k : Nat) (row : List Sd) (at' : Nat) (row' : List Sd), bfsS lines M k row at' = some row' → M + 1 ≤ k + at' → row.length ≤ M → (∀ i s, i < at' → row[i]? = some s → stepS lines s ∈ row) → ∀ s ∈ row', stepS lines s ∈ row'
  | 0, row, at', row', h, hk, hr, hc => by
    cases h
    intro s hs
    obtain ⟨i, hi⟩ := List.mem_iff_getElem?.mp hs
    have : i < row.length := (List.getElem?_eq_some_iff.mp hi).1
    exact hc i s (by omega) hi
  | k + 1, row, at', row', h, hk, hr, hc => by
    have h' : (match row[at']? with | none => some row | some s => if M < (addS row (stepS lines s)).length then none else bfsS lines M k (addS row (stepS lines s)) (at' + 1)) = some row' := h
    cases e : row[at']? with
    | none =>
      rw [e] at h'
      cases h'
      intro s hs
      obtain ⟨i, hi⟩ := List.mem_iff_getElem?.mp hs
      have h1 : i < row.length := (List.getElem?_eq_some_iff.mp hi).1
      have h2 : row.length ≤ at' := List.getElem?_eq_none_iff.mp e
      exact hc i s (by omega) hi
    | some s0 =>
      rw [e] at h'
      have hlt : at' < row.length := (List.getElem?_eq_some_iff.mp e).1
      have h2 : (if M < (addS row (stepS lines s0)).length then none else bfsS lines M k (addS row (stepS lines s0)) (at' + 1)) = some row' := h'
      split at h2
      · cases h2
      · rename_i hm
        refine bfs_closed k _ _ row' h2 (by omega) (by omega) fun i s hi hs => ?_
        by_cases hia : i = at'
        · subst hia
          rw [addS_pre hlt, e] at hs
          cases hs
          exact addS_new
        · rw [addS_pre (by omega)] at hs
          exact addS_sub (hc i s (by omega) hs)
def rlOf (lines : List Ln) (row : List Sd) : List Ln := row.map fun s => rline (lines.getD s.1.toNat ("stop", [])) (row.idxOf (stepS lines s))
theorem kvs_at {row : List Sd} {i : Nat} {k : NestedKey} {v : V} (h : (kvsOf row)[i]? = some (k, v)) : ∃ s, row[i]? = some s ∧ k = sdKey s := by
  unfold kvsOf at h
  rw [List.getElem?_map, List.getElem?_zipIdx] at h
  cases e : row[i]? with
  | none => rw [e] at h; cases h
  | some s =>
    rw [e] at h
    simp at h
    exact ⟨s, rfl, h.1.symm⟩
theorem good_rline {l : Ln} {j : Nat} {bx n : Int} (hb : 1 ≤ bx) (hj : (j : Int) ≤ n - 1) (h0 : 0 ≤ l.2.headD 0) (h1 : l.2.headD 0 ≤ 1000000000) : GoodR bx n (rline l j) := by
  unfold rline
  split
  · refine ⟨"nl", (by show (("say" : Str), ("nl" : Str)) ∈ shapesL; decide), rfl, fun i x c hx hc => ?_⟩
    match i, hx, hc with
    | 0, hx, hc =>
      have ec : c = 110 := by have : some (110 : Nat) = some c := hc; cases this; rfl
      have ex : x = l.2.headD 0 := by simpa using hx.symm
      subst ec ex
      exact ⟨by decide, h0, h1⟩
    | 1, hx, hc =>
      have ec : c = 108 := by have : some (108 : Nat) = some c := hc; cases this; rfl
      have ex : x = (j : Int) := by simpa using hx.symm
      subst ec ex
      exact ⟨by decide, by omega, by show (j : Int) ≤ n - 1; exact hj⟩
    | i + 2, hx, hc => simp at hx
  · refine ⟨"bbl", (by show (("copy" : Str), ("bbl" : Str)) ∈ shapesL; decide), rfl, fun i x c hx hc => ?_⟩
    match i, hx, hc with
    | 0, hx, hc =>
      have ec : c = 98 := by have : some (98 : Nat) = some c := hc; cases this; rfl
      have ex : x = 0 := by simpa using hx.symm
      subst ec ex
      exact ⟨by decide, by omega, by show (0 : Int) ≤ bx - 1; omega⟩
    | 1, hx, hc =>
      have ec : c = 98 := by have : some (98 : Nat) = some c := hc; cases this; rfl
      have ex : x = 0 := by simpa using hx.symm
      subst ec ex
      exact ⟨by decide, by omega, by show (0 : Int) ≤ bx - 1; omega⟩
    | 2, hx, hc =>
      have ec : c = 108 := by have : some (108 : Nat) = some c := hc; cases this; rfl
      have ex : x = (j : Int) := by simpa using hx.symm
      subst ec ex
      exact ⟨by decide, by omega, by show (j : Int) ≤ n - 1; exact hj⟩
    | i + 3, hx, hc => simp at hx
theorem good_fault {bx n : Int} : GoodR bx n ("fault", []) := ⟨"", by decide, rfl, fun i x c hx hc => by simp at hx⟩

/-! ### reckoner_of -/
def SideV (K : PySem.W.Frag) (H : Hp) (y : V) : Prop := (∃ i, y = .int i) ∨ ∃ n, TyX K H y (.type n) ∧ n ∈ tys ∧ n ≠ "int"
def spReck (K : PySem.W.Frag) : Sp := fun vs H Q E => ∃ x y, vs = [x, y] ∧ ((∃ n, TyX K H x (.type n) ∧ n ∈ Fs.tyNames ∧ Raised H E (He.ga K "BadMouse") [("part", .str "mouse")]) ∨
  ∃ m st lines, x = .ref m ∧ MouseAt K H m st lines ∧ SideV K H y ∧ ((sideOk y = false ∧ Raised H E (He.ga K "BadNumber") [("part", .str "side")]) ∨
    ∃ side, y = .int side ∧ 0 ≤ side ∧ side ≤ 3 ∧ ((st = 12 ∧ Raised H E (He.ga K "Misfit") [("part", .str "mouse")]) ∨ (0 ≤ st ∧ st < 12 ∧ LinesOk lines ∧
      (standS lines st side 5999 = none → Raised H E (He.ga K "TooMany") [("most", .int 6000), ("what", .str "lines")]) ∧
      (∀ row, standS lines st side 5999 = some row → ∀ H' r rl, Ex H H' → RckAt K H' r (st + 1) rl → rl.length = row.length + 1 → H r = none → Q (.ref r) H')))))
theorem Raised.ex {H H' : Hp} {E : XK} {C : Addr} {fs : List (Str × V)} (h : Raised H E C fs) (e : Ex H H') : Raised H' E C fs := fun d H2 e2 hd => h d H2 (e.trans e2) hd
theorem ok_reck (T : Tx w K mg) : ∃ fd, FnP K d_reckoner_of fd ∧ FnOk Pr w K mg base (L2.CX Pr w) 6 (He.fAd K d_reckoner_of.at_) fd ["mouse", "side"] (spReck K) := by
  obtain ⟨fd, F⟩ := T.F_reckoner_of
  obtain ⟨fdM, FM, GM⟩ := ok_needMouse (base := base) T
  obtain ⟨fdS, FS, GS⟩ := ok_needSide (base := base) T
  obtain ⟨fdI, FI, GI⟩ := ok_stand (base := base) T
  obtain ⟨fdL, FL, GL⟩ := ok_lineAt (base := base) T
  obtain ⟨fdR, FR, GR⟩ := ok_rck (base := base) T
  obtain ⟨dM, vM, bM⟩ := bNM FM
  obtain ⟨dS, vS, bS⟩ := bNS FS
  have bI : Binds K fdI ["mouse", "side", "most"] [] := FI.bindsN fun _ _ _ _ _ _ us hl => match us, hl with | [_, _, _], _ => rfl
  have bL : Binds K fdL ["mouse", "known", "standing"] [] := FL.bindsN fun _ _ _ _ _ _ us hl => match us, hl with | [_, _, _], _ => rfl
  have bR : Binds K fdR ["self", "boxes", "lines"] [] := FR.bindsN fun _ _ _ _ _ _ us hl => match us, hl with | [_, _, _], _ => rfl
  obtain ⟨t1, i1⟩ := T.i_MOST_STONES
  obtain ⟨t2, i2⟩ := T.i_MOST_LINES_reckoners
  have X := T.e_Misfit
  obtain ⟨oc, od, osl, kV, doc, pm, an, ct, lk⟩ := X.lk
  have Y := T.e_TooMany
  obtain ⟨oc2, od2, osl2, kV2, doc2, pm2, an2, ct2, lk2⟩ := Y.lk
  refine ⟨fd, F, F.ok sc_reckoner_of (fun vs H Q E h => ?_) fun cdv A outer s H vs Q E hr h => ?_⟩
  · obtain ⟨x, y, rfl, _⟩ := h; rfl
  have nd := sc_reckoner_of.nd
  have F1 := fn_e1 (CX := CX0) (w := w) (mg := mg) (base := base) (k := 0) X.sup sx_Misfit (X.noat "part" (by simp [e_Misfit])) lk X.code rfl rfl rfl rfl (fun _ => rfl) T.n_super
  have F2 := fn_e2 (CX := CX0) (w := w) (mg := mg) (base := base) (k := 0) Y.sup sx_TooMany (Y.noat "what" (by simp [e_TooMany])) (Y.noat "most" (by simp [e_TooMany])) lk2 Y.code rfl rfl rfl rfl rfl (fun _ => rfl) T.n_super
  have tk : Takes (cxOf (L2.CX Pr w) Pr w K mg base N_reckoner_of d_reckoner_of.qual d_reckoner_of.scope (He.fAd K d_reckoner_of.at_) cdv A outer s H E) (fun cls d _ H => E cls d H) := takes_of rfl rfl rfl rfl
  have bE : Binds K _ ["self", "part"] [] := .all (fd := PySem.W.fnX "__init__" e_Misfit.qual e_Misfit.params e_Misfit.body e_Misfit.scope [("__class__", ccOf K (He.ma K (He.ga K e_Misfit.cls) "__init__"))] .none kV doc pm an (.ref (cdOf K (He.ma K (He.ga K e_Misfit.cls) "__init__"))) ct) fun us hl => match us, hl with | [_, _], _ => rfl
  have bE2 : Binds K _ ["self", "what", "most"] [] := .all (fd := PySem.W.fnX "__init__" e_TooMany.qual e_TooMany.params e_TooMany.body e_TooMany.scope [("__class__", ccOf K (He.ma K (He.ga K e_TooMany.cls) "__init__"))] .none kV2 doc2 pm2 an2 (.ref (cdOf K (He.ma K (He.ga K e_TooMany.cls) "__init__"))) ct2) fun us hl => match us, hl with | [_, _, _], _ => rfl
  have hu : (A.deeper (envOfC d_reckoner_of.qual d_reckoner_of.scope s.heap.objs.size (He.fAd K d_reckoner_of.at_) cdv)).units + 64 < cLine := hr.units
  refine ⟨_, pss_cons (ps_expr (pe_call (E := E) GM (hr.mono (by decide)) rfl T.g_need_mouse FM.kp bM vM (passes_call tk (fun _ _ _ _ h => h)) (pa_cons (pv 0) pa_nil)))
    (pss_cons (ps_expr (pe_call (E := E) GS (hr.mono (by decide)) rfl T.g_need_side FS.kp bS vS (passes_call tk (fun _ _ _ _ h => h)) (pa_cons (pv 1) pa_nil)))
    (pss_cons (ps_if (pt_cmpR op_eq (pe_fld (pv 0) rfl) (pe_gint rfl i1) (nomark _)) (pss_one (ps_raise rfl tk (pmk_oex X.sup.own X.init X.ty F1 (hr.mono (by decide)) bE .nil (fun _ _ _ _ _ _ _ z => z.elim) rfl T.g_Misfit (pa_cons pe_str pa_nil)))) pss_nil)
    (pss_cons (ps_set (i := 2) nd rfl (Or.inr rfl) (pe_call GI (hr.mono (by decide)) rfl T.g_standings_in FI.kp bI .nil pass0 (pa_cons (pv 0) (pa_cons (pv 1) (pa_cons (pe_op op_sub (pe_gint rfl i2) pe_int) pa_nil)))))
    (pss_cons (ps_if (pt_cmpR op_isN (pv 2) pe_non (nomark _)) (pss_one (ps_raise rfl tk (pmk_oex Y.sup.own Y.init Y.ty F2 (hr.mono (by decide)) bE2 .nil (fun _ _ _ _ _ _ _ z => z.elim) rfl T.g_TooMany (pa_cons pe_str (pa_cons (pe_gint rfl i2) pa_nil))))) pss_nil)
    (pss_one (ps_ret (pe_make T.k_Reckoner GR (hr.mono (by decide)) rfl T.g_Reckoner bR .nil pass0 (pa_cons (pe_op op_add (pe_fld (pv 0) rfl) pe_int) (pa_cons (pe_lst (StX.pa_star
      (by exact pe_lc (own := [("standing", 3)]) (g := gName 3) (tt := tYes) rfl nd (pi_keysN (pv 2)) (blkOk_by (N := N_reckoner_of) (sc := defScope s_reckoner_of) (by decide +kernel))
                    (fun _ _ _ _ _ => pg_name (i := 3) nd rfl (Or.inl rfl)) (fun _ _ _ _ _ => pts_nil)
                    (fun _ _ _ _ _ => pe_call GL (hr.mono (by decide)) rfl T.g_line_at FL.kp bL .nil pass0 (pa_cons (pv 0) (pa_cons (pv 2) (pa_cons (pv 3) pa_nil)))))
      (pa_cons (pe_tup (pa_cons pe_str pa_nil)) pa_nil))) pa_nil))))))))), ?_⟩
  obtain ⟨x, y, rfl, h⟩ := h
  rcases h with ⟨n, ty, hn, q⟩ | ⟨m, st, lines, rfl, hm, hy, h⟩
  · exact ⟨_, rfl, x, "mouse", rfl, .inl ⟨n, ty, hn, q⟩⟩
  obtain ⟨dx, L, hm1, _⟩ := id hm
  refine ⟨_, rfl, .ref m, "mouse", rfl, .inr ⟨m, dx, _, rfl, hm1, ?_⟩⟩
  rcases h with ⟨hs, q⟩ | ⟨side, rfl, s0, s3, h⟩
  · exact ⟨_, rfl, y, "side", rfl, hy, fun z => absurd z (by rw [hs]; decide), fun _ => q⟩
  refine ⟨_, rfl, .int side, "side", rfl, hy, fun _ => ?_, fun z => absurd z (by rw [side_in s0 s3]; decide)⟩
  refine ⟨_, rfl, m, _, dx, _, .int st, rfl, hm1, T.c_Mouse, T.a_Mouse_stones, rfl, rfl, _, rfl, ?_⟩
  rcases h with ⟨rfl, q⟩ | ⟨st0, st12, hok, qn, qs⟩
  · exact iteT ⟨by decide, mk_e1 (raised_new q)⟩
  have n12 : decide (V.int st = V.int 12) = false := decide_eq_false fun z => by
    have := V.int.inj z
    omega
  rw [n12]
  refine iteF ⟨_, rfl, _, rfl, 6000, 1, rfl, rfl, m, st, side, lines, 5999, rfl, hm, hok, st0, by omega, by decide, by decide, fun hn H1 e1 => ?_, fun row hrow hnd hrl hvd H1 d e1 hdn hd => ?_⟩
  · refine ⟨_, rfl, rfl, _, rfl, iteT ⟨by simp, mk_e2 (raised_new ((qn hn).ex e1))⟩⟩
  refine ⟨_, rfl, rfl, _, rfl, iteB (fun z => absurd (of_decide_eq_true z) (by simp)) fun _ => ?_⟩
  have hm2 := hm.ex e1
  obtain ⟨dx2, L2', hm21, _⟩ := id hm2
  refine ⟨_, rfl, m, _, dx2, _, .int st, rfl, hm21, T.c_Mouse, T.a_Mouse_stones, rfl, st, 1, rfl, rfl, ?_⟩
  obtain ⟨es, ep, hx⟩ := id hdn
  refine ⟨_, rfl, d, kvsOf row, es, ep, rfl, hx, fun D hD => ?_⟩
  have hcl : ∀ s ∈ row, stepS lines s ∈ row := bfs_closed (M := 5999) 6000 [firstS st side] 0 row hrow (by omega) (by simp) (fun i s hi => by omega)
  have h6 : (20010 : Nat) < sizeLine := by decide
  refine lc_keysN hx (fun i H' => Ex H1 H' ∧ ∃ bs : List Addr, H' D = some (.lst (bs.map V.ref)) ∧ Paired (LineAt K H') bs ((rlOf lines row).take i)) ⟨Ex.new hD, [], upd_same, .nil⟩ (fun i H' hi z => z.1 _ _ hx.at_) (fun i k v a H' hk hkis hdep z => ?_) (fun H2 z => ?_)
  · obtain ⟨z1, bs, z2, z3⟩ := z
    obtain ⟨s, hs, rfl⟩ := kvs_at hk
    have hsm := List.mem_of_getElem? hs
    have hlt : i < row.length := (List.getElem?_eq_some_iff.mp hs).1
    have hsd : SdAt K H' a s := (sd_of_key hkis).ex z1
    have hj : row[row.idxOf (stepS lines s)]? = some (stepS lines s) := by
      have := List.idxOf_lt_length_of_mem (hcl s hsm)
      rw [List.getElem?_eq_getElem this, List.getElem_idxOf]
    refine ⟨rfl, yes_if ⟨_, rfl, _, rfl, _, rfl, m, d, a, st, lines, s, row, _, rfl, hm2.ex z1, hdn.ex z1, hnd, hsd, hvd s hsm, hj, fun H3 b e3 hb => ?_⟩⟩
    have hbl : bs.length = i := by
      have := Paired.length z3
      rw [List.length_take] at this
      simp [rlOf] at this
      omega
    refine ⟨bs.map V.ref, e3 _ _ z2, by rw [List.length_map]; omega, Ex.upd (z1.trans e3) hD, bs ++ [b], ?_, ?_⟩
    · rw [upd_same, List.map_append]; rfl
    · have et : (rlOf lines row).take (i + 1) = (rlOf lines row).take i ++ [rline (lines.getD s.1.toNat ("stop", [])) (row.idxOf (stepS lines s))] := by
        rw [List.take_add_one]
        congr 1
        unfold rlOf
        rw [List.getElem?_map, hs]
        rfl
      rw [et]
      have ext3 : ExT H3 (upd H3 D (.lst (bs.map V.ref ++ [V.ref b]))) := ext_at (e3 _ _ z2) (fun _ z => by cases z) (fun _ _ z => by cases z)
      exact paired_snoc (Fs.Paired.mono (fun _ _ z => (e3.st z).imp (ext3 _ _) id) z3) (hb.imp (ext3 _ _) id)
  · obtain ⟨z1, bs, z2, z3⟩ := z
    have hrl2 : (rlOf lines row).length = row.length := by simp [rlOf]
    rw [kvsOf_len, ← hrl2, List.take_length] at z3
    have hbl : bs.length = row.length := by rw [Paired.length z3, hrl2]
    refine ⟨D, _, rfl, .inr (.of z2), by decide, fun tf htf => ?_⟩
    have e4 : Ex H2 (upd H2 tf (.tup [.str "fault"])) := Ex.new htf
    refine ⟨by rw [List.length_append, List.length_map]; simp; omega, fun l hl => ?_⟩
    intro x dx' hx' hdx' hne
    have e5 : Ex (upd H2 tf (.tup [.str "fault"])) (upd (upd H2 tf (.tup [.str "fault"])) l (.lst (bs.map V.ref ++ [V.ref tf]))) := Ex.new hl
    have htl : upd (upd H2 tf (.tup [.str "fault"])) l (.lst (bs.map V.ref ++ [V.ref tf])) tf = some (.tup [.str "fault"]) := e5 _ _ upd_same
    have hll : upd (upd H2 tf (.tup [.str "fault"])) l (.lst (bs.map V.ref ++ [V.ref tf])) l = some (.lst (bs.map V.ref ++ [V.ref tf])) := upd_same
    have e25 := e4.trans e5
    generalize upd (upd H2 tf (.tup [.str "fault"])) l (.lst (bs.map V.ref ++ [V.ref tf])) = H5 at e5 htl hll hx' hdx' e25
    have e6 : Ex H5 (upd H5 dx' (.own x)) := Ex.new hdx'
    have hx6 : upd H5 dx' (.own x) x = none := by rw [upd_ne (Ne.symm hne)]; exact hx'
    have e7 : Ex H5 (upd (upd H5 dx' (.own x)) x (.ins (He.ga K "Reckoner") dx' [])) := e6.trans (Ex.new hx6)
    have hp7 : Paired (LineAt K (upd (upd H5 dx' (.own x)) x (.ins (He.ga K "Reckoner") dx' []))) (bs ++ [tf]) (rlOf lines row ++ [(("fault", []) : Ln)]) :=
      paired_snoc (lines_ex (e25.trans e7) z3) (.of (e7 _ _ htl))
    have hlen : ((rlOf lines row ++ [(("fault", []) : Ln)]).length : Int) = row.length + 1 := by rw [List.length_append, hrl2]; rfl
    refine ⟨x, st + 1, l, bs ++ [tf], rlOf lines row ++ [(("fault", []) : Ln)], dx', rfl, upd_same, by omega, by omega, .of (by rw [List.map_append]; exact e7 _ _ hll), hp7, ?_, ?_, ?_, fun H8 e8 hr8 => ⟨rfl, ?_⟩⟩
    · have := hlen; omega
    · have := hlen; omega
    · intro ln hln
      rw [hlen]
      rcases List.mem_append.mp hln with h | h
      · obtain ⟨s, hs, rfl⟩ := List.mem_map.mp h
        have hin := hcl s hs
        have hidx := List.idxOf_lt_length_of_mem hin
        obtain ⟨v0, v1, v2⟩ := hvd s hs
        have hml : lines.getD s.1.toNat ("stop", []) ∈ lines := by
          have hlt : s.1.toNat < lines.length := by omega
          have : lines.getD s.1.toNat ("stop", []) = lines[s.1.toNat] := by simp [hlt]
          rw [this]
          exact List.getElem_mem hlt
        obtain ⟨_, _, _, g1, g2⟩ := hok.2 _ hml
        exact good_rline (by omega) (by omega) g1 g2
      · simp at h
        subst h
        exact good_fault
    · have hxn : H x = none := (e1.trans (z1.trans e25)).back hx'
      refine qs row hrow H8 x _ (fun b o hb => e8 b o (ne_of_none hb hxn) ((e1.trans (z1.trans (e25.trans e7))) b o hb)) hr8 ?_ hxn
      have := hlen; omega
end K72

set_option Elab.async false
set_option linter.all false
set_option maxRecDepth 100000
set_option maxHeartbeats 4000000
namespace K72
open PySem PySem.Spec PyProof.Rows L2 Fs
variable {w : World} {K : PySem.W.Frag} {mg : Str → Option Value} {base : Heap}

/-- the beadle at b: the script's numbers at c, the turn, what is left; at most T turns so far -/
def BSt (K : PySem.W.Frag) (H : Hp) (b : Addr) (T : Int) : Prop := ∃ (c : Addr) (ns : List Int) (t left : Int), H b = some (.lst [.ref c, .int t, .int left]) ∧ H c = some (.lst (ns.map V.int)) ∧ c ≠ b ∧ ns.length ≤ 60 ∧ 0 ≤ t ∧ t ≤ T ∧ 0 ≤ left
def spStaff (K : PySem.W.Frag) : Sp := fun vs H Q _ => ∃ b many T, vs = [.ref b, .int many] ∧ 0 < many ∧ many < 1000000 ∧ BSt K H b T ∧ T ≤ 900000 ∧ ∀ r H', 0 ≤ r → r < many → BSt K H' b (T + 1) → ExB b H H' → Q (.int r) H'
theorem ok_staff (T : Tx w K mg) : ∃ fd, FnP K d__law_staff fd ∧ FnOk Pr w K mg base CX0 1 (He.fAd K d__law_staff.at_) fd ["_law_beadle_here", "_law_many"] (spStaff K) := by
  obtain ⟨fd, F⟩ := T.F__law_staff
  refine ⟨fd, F, F.ok sc__law_staff (fun vs H Q E h => ?_) fun cdv A outer s H vs Q E hr h => ?_⟩
  · obtain ⟨b, many, Tm, rfl, _⟩ := h; rfl
  have nd := sc__law_staff.nd
  have hu : (A.deeper (envOfC d__law_staff.qual d__law_staff.scope s.heap.objs.size (He.fAd K d__law_staff.at_) cdv)).units + 64 < cLine := hr.units
  refine ⟨_, PSs.nox (pss_cons (ps_if (pt_cmpR op_gt (pe_ix ix_list (pv 0) pe_int (fun _ _ => rfl)) pe_int (nomark _)) (pss_cons (ps_set (i := 2) nd rfl (Or.inl rfl) (pe_callTy (T := "int") call_int1 rfl T.n_int (by decide +kernel) (pa_cons (pe_ix ix_list (pv 0) pe_int (fun _ _ => rfl)) pa_nil))) (pss_cons (ps_asg (pe_op op_fdiv (pv 2) (pv 1)) (pg_sub (pv 0) pe_int set_list)) (pss_one (ps_ret (pe_op op_mod (pe_callTy (T := "int") call_int1 rfl T.n_int (by decide +kernel) (pa_cons (pv 2) pa_nil)) (pv 1)))))) pss_nil) (pss_cons (ps_set (i := 3) nd rfl (Or.inl rfl) (pe_ix ix_list (pv 0) pe_int (fun _ _ => rfl))) (pss_cons (ps_asg (pe_op op_add (pv 3) pe_int) (pg_sub (pv 0) pe_int set_list)) (pss_cons (ps_set (i := 4) nd rfl (Or.inl rfl) (pe_op op_add (pe_op op_mul pe_int (pv 3)) pe_int)) (pss_cons (ps_if (pt_cmpR (op_neD hu) (pe_ix ix_list (pv 0) pe_int (fun _ _ => rfl)) (pe_lst pa_nil) (nomark _)) (pss_one (ps_set (i := 4) nd rfl (Or.inl rfl) (pe_ix ix_list (pe_ix ix_list (pv 0) pe_int (fun _ _ => rfl)) (pe_op op_mod (pe_callTy (T := "int") call_int1 rfl T.n_int (by decide +kernel) (pa_cons (pv 3) pa_nil)) (pe_callB (r := rLenQ K) call_lenQ rfl T.n_len (by decide +kernel) (pa_cons (pe_ix ix_list (pv 0) pe_int (fun _ _ => rfl)) pa_nil))) (fun _ _ => rfl)))) pss_nil) (pss_cons (ps_if (PW.pt (pw_and (pt_cmpR op_lt (pv 3) (pe_callB (r := rLenQ K) call_lenQ rfl T.n_len (by decide +kernel) (pa_cons (pe_ix ix_list (pv 0) pe_int (fun _ _ => rfl)) pa_nil)) (nomark _)) (pw_and1 (pt_cmpR op_ge (pe_callB (id := "abs") call_abs rfl T.n_abs (by decide +kernel) (pa_cons (pv 4) pa_nil)) (pe_op op_pow pe_int pe_int) (nomark _))))) (pss_cons (ps_set (i := 2) nd rfl (Or.inl rfl) (pe_op op_add (pe_op op_mul pe_int (pe_op op_sub (pe_callB (id := "abs") call_abs rfl T.n_abs (by decide +kernel) (pa_cons (pe_callTy (T := "int") call_int1 rfl T.n_int (by decide +kernel) (pa_cons (pv 4) pa_nil)) pa_nil)) (pe_op op_pow pe_int pe_int))) (pe_callTy (T := "int") call_int1 rfl T.n_int (by decide +kernel) (pa_cons (pe_cmpR op_lt (pv 4) pe_int (nomark _)) pa_nil)))) (pss_cons (ps_asg (pe_op op_fdiv (pv 2) (pv 1)) (pg_sub (pv 0) pe_int set_list)) (pss_one (ps_ret (pe_op op_mod (pe_callTy (T := "int") call_int1 rfl T.n_int (by decide +kernel) (pa_cons (pv 2) pa_nil)) (pv 1)))))) pss_nil) (pss_cons (ps_set (i := 5) nd rfl (Or.inl rfl) (pe_op op_mod (pe_callTy (T := "int") call_int1 rfl T.n_int (by decide +kernel) (pa_cons (pe_op op_pow (pe_op op_add (pe_op op_add (pe_op op_mod (pe_callTy (T := "int") call_int1 rfl T.n_int (by decide +kernel) (pa_cons (pv 4) pa_nil)) pe_int) (pe_op op_mul pe_int (pv 3))) pe_int) pe_int) pa_nil)) pe_int)) (pss_cons (ps_set (i := 5) nd rfl (Or.inl rfl) (pe_op op_mod (pe_callTy (T := "int") call_int1 rfl T.n_int (by decide +kernel) (pa_cons (pe_op op_pow (pe_op op_add (pe_op op_add (pe_op op_mul (pv 5) (pe_op op_add (pe_op op_mul pe_int (pv 3)) pe_int)) (pe_op op_mul (pe_op op_mul pe_int (pv 3)) (pv 3))) pe_int) pe_int) pa_nil)) pe_int)) (pss_one (ps_ret (pe_op op_mod (pe_callTy (T := "int") call_int1 rfl T.n_int (by decide +kernel) (pa_cons (pe_op op_fdiv (pv 5) pe_int) pa_nil)) (pv 1)))))))))))), ?_⟩
  obtain ⟨b, many, Tm, rfl, m0, m1, ⟨c, ns, t, left, hb, hc, hcb, hl, t0, tT, l0⟩, hT, q⟩ := h
  have md : ∀ x : Int, 0 ≤ x % many ∧ x % many < many := fun x => ⟨Int.emod_nonneg _ (by omega), Int.emod_lt_of_pos _ m0⟩
  have dv : ∀ x : Int, 0 ≤ x → 0 ≤ x / many := fun x hx => Int.ediv_nonneg hx (by omega)
  refine ⟨_, rfl, b, _, 2, .int left, rfl, rfl, .of hb, atI_nat (j := 2) rfl, left, 0, rfl, rfl, _, rfl, iteB (fun z => ?_) fun z => ?_⟩
  · refine ⟨_, rfl, b, _, 2, .int left, rfl, rfl, .of hb, atI_nat (j := 2) rfl, .inl ⟨left, rfl, ?_⟩⟩
    refine ⟨_, rfl, _, rfl, left, many, rfl, rfl, ⟨m0, by omega⟩, _, rfl, b, _, 2, 2, rfl, rfl, hb, rfl, ?_⟩
    refine ⟨_, rfl, .inl ⟨left, rfl, _, rfl, left, many, rfl, rfl, m0, ?_⟩⟩
    exact q _ _ (md left).1 (md left).2 ⟨c, ns, t, left / many, upd_same, (upd_ne hcb).trans hc, hcb, hl, t0, by omega, dv left l0⟩ ExB.upd
  · have hz : left = 0 := by
      have : ¬ left > 0 := of_decide_eq_false z
      omega
    subst hz
    refine ⟨_, rfl, b, _, 1, .int t, rfl, rfl, .of hb, atI_nat (j := 1) rfl, ?_⟩
    refine ⟨_, rfl, t, 1, rfl, rfl, _, rfl, b, _, 1, 1, rfl, rfl, hb, rfl, ?_⟩
    have hb1 : upd H b (.lst ([V.ref c, .int t, .int 0].set 1 (.int (t + 1)))) b = some (.lst [.ref c, .int (t + 1), .int 0]) := upd_same
    have hc1 : upd H b (.lst ([V.ref c, .int t, .int 0].set 1 (.int (t + 1)))) c = some (.lst (ns.map V.int)) := (upd_ne hcb).trans hc
    have o1 : ExB b H (upd H b (.lst ([V.ref c, .int t, .int 0].set 1 (.int (t + 1))))) := ExB.upd
    generalize upd H b (.lst ([V.ref c, .int t, .int 0].set 1 (.int (t + 1)))) = H1 at hb1 hc1 o1
    refine ⟨_, rfl, 604829, t, rfl, rfl, .inl ⟨by decide, by decide⟩, _, 7243, rfl, rfl, ?_⟩
    -- b[0] != []
    refine ⟨_, rfl, b, _, 0, .ref c, rfl, rfl, .of hb1, atI_nat (j := 0) rfl, by decide, fun e0 he0 => ?_⟩
    have hb2 : upd H1 e0 (.lst []) b = some (.lst [.ref c, .int (t + 1), .int 0]) := (upd_ne (ne_of_none hb1 he0)).trans hb1
    have hc2 : upd H1 e0 (.lst []) c = some (.lst (ns.map V.int)) := (upd_ne (ne_of_none hc1 he0)).trans hc1
    have dns : ∀ l : List Int, DpAll K (upd H1 e0 (.lst [])) (l.map V.int) (l.map PyData.int) := fun l => by
      induction l with
      | nil => exact .nil
      | cons x r ih => exact .cons (.int x) ih
    have o2 : ExB b H (upd H1 e0 (.lst [])) := o1.trans (ExB.of (Ex.new he0))
    refine ⟨.list (ns.map PyData.int), .list [], .lst (.of hc2) (dns ns), .lst (.of upd_same) .nil, PySem.W.ke_shaped_ints ns, rfl, _, rfl, ?_⟩
    generalize upd H1 e0 (.lst []) = H2 at hb2 hc2 o2
    have fin : ∀ (left' : Int) (H3 : Hp) (r : Int), 0 ≤ left' → H3 = upd H2 b (.lst [.ref c, .int (t + 1), .int left']) → 0 ≤ r → r < many → Q (.int r) H3 := fun left' H3 r hl' e hr0 hr1 => by
      subst e
      exact q _ _ hr0 hr1 ⟨c, ns, t + 1, left', upd_same, (upd_ne hcb).trans hc2, hcb, hl, by omega, by omega, hl'⟩ (o2.trans ExB.upd)
    have fin2 : ∀ r : Int, 0 ≤ r → r < many → Q (.int r) H2 := fun r hr0 hr1 => q _ _ hr0 hr1 ⟨c, ns, t + 1, 0, hb2, hc2, hcb, hl, by omega, by omega, by omega⟩ o2
    have mixA : ∀ cv : Int, (cv % 2147483549 + 63839 * t + 7243).natAbs < 2 ^ 64 := fun cv => by
      have h1 := Int.emod_nonneg cv (b := 2147483549) (by decide)
      have h2 := Int.emod_lt_of_pos cv (b := 2147483549) (by decide)
      omega
    have mixB : ∀ x : Int, 0 ≤ x % 2147483629 ∧ x % 2147483629 < 2147483629 := fun x => ⟨Int.emod_nonneg _ (by decide), Int.emod_lt_of_pos _ (by decide)⟩
    have mixC : ∀ mx : Int, 0 ≤ mx ∧ mx < 2147483629 → (mx * (2 * t + 7537) + 604829 * t * t + 63839).natAbs < 2 ^ 64 := fun mx ⟨h1, h2⟩ => by
      have a1 : 0 ≤ mx * (2 * t + 7537) := Int.mul_nonneg h1 (by omega)
      have a2 : mx * (2 * t + 7537) ≤ 2147483629 * 1807537 := Int.mul_le_mul (by omega) (by omega) (by omega) (by omega)
      have a3 : 0 ≤ 604829 * t * t := Int.mul_nonneg (by omega) t0
      have a4 : 604829 * t * t ≤ 604829 * 900000 * 900000 := Int.mul_le_mul (by omega) (by omega) (by omega) (by omega)
      omega
    refine iteB (fun z => ?_) fun z => ?_
    · have hns : 0 < ns.length := by
        cases ns with
        | nil => exact absurd z (by decide)
        | cons x r => simp
      refine ⟨_, rfl, b, _, 0, .ref c, rfl, rfl, .of hb2, atI_nat (j := 0) rfl, ?_⟩
      refine ⟨_, rfl, .inl ⟨t, rfl, _, rfl, b, _, 0, .ref c, rfl, rfl, .of hb2, atI_nat (j := 0) rfl, c, _, rfl, .inl (.of hc2), t, _, rfl, rfl, ?_, ?_⟩⟩
      · show (0 : Int) < ((ns.map V.int).length : Int)
        rw [List.length_map]; omega
      have hmod : ∃ k : Nat, k < ns.length ∧ t % ((ns.map V.int).length : Int) = (k : Int) := by
        rw [List.length_map]
        have h1 := Int.emod_nonneg t (b := (ns.length : Int)) (by omega)
        have h2 := Int.emod_lt_of_pos t (b := (ns.length : Int)) (by omega)
        exact ⟨(t % (ns.length : Int)).toNat, by omega, by omega⟩
      obtain ⟨k, hk, ek⟩ := hmod
      have hat : (ns.map V.int)[k]? = some (.int ns[k]) := by rw [List.getElem?_map, List.getElem?_eq_getElem hk]; rfl
      refine ⟨c, _, t % ((ns.map V.int).length : Int), .int ns[k], rfl, rfl, .of hc2, by rw [ek]; exact atI_nat hat, ?_⟩
      generalize ns[k] = cv
      refine ⟨_, rfl, _, rfl, b, _, 0, .ref c, rfl, rfl, .of hb2, atI_nat (j := 0) rfl, c, _, rfl, .inl (.of hc2), t, _, rfl, rfl, _, rfl, iteB (fun z1 => ?_) fun z1 => ?_⟩
      · refine ⟨_, rfl, cv, rfl, 10, 18, rfl, rfl, ⟨by decide, by decide, by decide⟩, _, _, rfl, rfl, _, rfl, iteB (fun z2 => ?_) fun z2 => ?_⟩
        · have hge : (if cv < 0 then -cv else cv) ≥ (10 : Int) ^ (18 : Int).toNat := of_decide_eq_true z2
          refine ⟨_, rfl, .inl ⟨cv, rfl, cv, rfl, 10, 18, rfl, rfl, ⟨by decide, by decide, by decide⟩, _, _, rfl, rfl, 2, _, rfl, rfl, .inl ⟨by decide, by decide⟩, _, rfl, cv, 0, rfl, rfl, .inr ⟨_, rfl, _, _, rfl, rfl, ?_⟩⟩⟩
          have hl0 : 0 ≤ 2 * ((if cv < 0 then -cv else cv) - (10 : Int) ^ (18 : Int).toNat) + (if decide (cv < 0) = true then 1 else 0) := by
            have : (0 : Int) ≤ (if decide (cv < 0) = true then 1 else 0) := by split <;> decide
            omega
          refine ⟨_, rfl, _, rfl, _, many, rfl, rfl, ⟨m0, by omega⟩, _, rfl, b, _, 2, 2, rfl, rfl, hb2, rfl, ?_⟩
          exact ⟨_, rfl, .inl ⟨_, rfl, _, rfl, _, many, rfl, rfl, m0, fin _ _ _ (dv _ hl0) rfl (md _).1 (md _).2⟩⟩
        · refine ⟨_, rfl, .inl ⟨cv, rfl, cv, 2147483549, rfl, rfl, (by show (0 : Int) < 2147483549; decide), _, rfl, 63839, t, rfl, rfl, .inl ⟨by decide, by decide⟩, _, _, rfl, rfl, _, 7243, rfl, rfl, _, 5, rfl, rfl, ⟨by decide, by decide, mixA cv⟩, .inl ⟨_, rfl, _, 2147483629, rfl, rfl, (by show (0 : Int) < 2147483629; decide), ?_⟩⟩⟩
          have hmx := mixB ((cv % 2147483549 + 63839 * t + 7243) ^ (5 : Int).toNat)
          dsimp only
          generalize (cv % 2147483549 + 63839 * t + 7243) ^ (5 : Int).toNat % 2147483629 = mx at hmx
          refine ⟨_, rfl, _, rfl, 2, t, rfl, rfl, .inl ⟨by decide, by decide⟩, _, 7537, rfl, rfl, mx, _, rfl, rfl, .inl ⟨by omega, by omega⟩, _, rfl, 604829, t, rfl, rfl, .inl ⟨by decide, by decide⟩, _, rfl, _, t, rfl, rfl, .inr ⟨by omega, by omega⟩, _, _, rfl, rfl, _, 63839, rfl, rfl, _, 3, rfl, rfl, ⟨by decide, by decide, mixC mx hmx⟩, .inl ⟨_, rfl, _, 2147483587, rfl, rfl, (by show (0 : Int) < 2147483587; decide), ?_⟩⟩
          exact ⟨_, rfl, _, 64, rfl, rfl, ⟨by decide, by decide⟩, .inl ⟨_, rfl, _, rfl, _, many, rfl, rfl, m0, fin2 _ (md _).1 (md _).2⟩⟩
      · refine ⟨_, rfl, .inl ⟨cv, rfl, cv, 2147483549, rfl, rfl, (by show (0 : Int) < 2147483549; decide), _, rfl, 63839, t, rfl, rfl, .inl ⟨by decide, by decide⟩, _, _, rfl, rfl, _, 7243, rfl, rfl, _, 5, rfl, rfl, ⟨by decide, by decide, mixA cv⟩, .inl ⟨_, rfl, _, 2147483629, rfl, rfl, (by show (0 : Int) < 2147483629; decide), ?_⟩⟩⟩
        have hmx := mixB ((cv % 2147483549 + 63839 * t + 7243) ^ (5 : Int).toNat)
        dsimp only
        generalize (cv % 2147483549 + 63839 * t + 7243) ^ (5 : Int).toNat % 2147483629 = mx at hmx
        refine ⟨_, rfl, _, rfl, 2, t, rfl, rfl, .inl ⟨by decide, by decide⟩, _, 7537, rfl, rfl, mx, _, rfl, rfl, .inl ⟨by omega, by omega⟩, _, rfl, 604829, t, rfl, rfl, .inl ⟨by decide, by decide⟩, _, rfl, _, t, rfl, rfl, .inr ⟨by omega, by omega⟩, _, _, rfl, rfl, _, 63839, rfl, rfl, _, 3, rfl, rfl, ⟨by decide, by decide, mixC mx hmx⟩, .inl ⟨_, rfl, _, 2147483587, rfl, rfl, (by show (0 : Int) < 2147483587; decide), ?_⟩⟩
        exact ⟨_, rfl, _, 64, rfl, rfl, ⟨by decide, by decide⟩, .inl ⟨_, rfl, _, rfl, _, many, rfl, rfl, m0, fin2 _ (md _).1 (md _).2⟩⟩
    · dsimp only
      generalize 604829 * t + 7243 = cv
      refine ⟨_, rfl, _, rfl, b, _, 0, .ref c, rfl, rfl, .of hb2, atI_nat (j := 0) rfl, c, _, rfl, .inl (.of hc2), t, _, rfl, rfl, _, rfl, iteB (fun z1 => ?_) fun z1 => ?_⟩
      · refine ⟨_, rfl, cv, rfl, 10, 18, rfl, rfl, ⟨by decide, by decide, by decide⟩, _, _, rfl, rfl, _, rfl, iteB (fun z2 => ?_) fun z2 => ?_⟩
        · have hge : (if cv < 0 then -cv else cv) ≥ (10 : Int) ^ (18 : Int).toNat := of_decide_eq_true z2
          refine ⟨_, rfl, .inl ⟨cv, rfl, cv, rfl, 10, 18, rfl, rfl, ⟨by decide, by decide, by decide⟩, _, _, rfl, rfl, 2, _, rfl, rfl, .inl ⟨by decide, by decide⟩, _, rfl, cv, 0, rfl, rfl, .inr ⟨_, rfl, _, _, rfl, rfl, ?_⟩⟩⟩
          have hl0 : 0 ≤ 2 * ((if cv < 0 then -cv else cv) - (10 : Int) ^ (18 : Int).toNat) + (if decide (cv < 0) = true then 1 else 0) := by
            have : (0 : Int) ≤ (if decide (cv < 0) = true then 1 else 0) := by split <;> decide
            omega
          refine ⟨_, rfl, _, rfl, _, many, rfl, rfl, ⟨m0, by omega⟩, _, rfl, b, _, 2, 2, rfl, rfl, hb2, rfl, ?_⟩
          exact ⟨_, rfl, .inl ⟨_, rfl, _, rfl, _, many, rfl, rfl, m0, fin _ _ _ (dv _ hl0) rfl (md _).1 (md _).2⟩⟩
        · refine ⟨_, rfl, .inl ⟨cv, rfl, cv, 2147483549, rfl, rfl, (by show (0 : Int) < 2147483549; decide), _, rfl, 63839, t, rfl, rfl, .inl ⟨by decide, by decide⟩, _, _, rfl, rfl, _, 7243, rfl, rfl, _, 5, rfl, rfl, ⟨by decide, by decide, mixA cv⟩, .inl ⟨_, rfl, _, 2147483629, rfl, rfl, (by show (0 : Int) < 2147483629; decide), ?_⟩⟩⟩
          have hmx := mixB ((cv % 2147483549 + 63839 * t + 7243) ^ (5 : Int).toNat)
          dsimp only
          generalize (cv % 2147483549 + 63839 * t + 7243) ^ (5 : Int).toNat % 2147483629 = mx at hmx
          refine ⟨_, rfl, _, rfl, 2, t, rfl, rfl, .inl ⟨by decide, by decide⟩, _, 7537, rfl, rfl, mx, _, rfl, rfl, .inl ⟨by omega, by omega⟩, _, rfl, 604829, t, rfl, rfl, .inl ⟨by decide, by decide⟩, _, rfl, _, t, rfl, rfl, .inr ⟨by omega, by omega⟩, _, _, rfl, rfl, _, 63839, rfl, rfl, _, 3, rfl, rfl, ⟨by decide, by decide, mixC mx hmx⟩, .inl ⟨_, rfl, _, 2147483587, rfl, rfl, (by show (0 : Int) < 2147483587; decide), ?_⟩⟩
          exact ⟨_, rfl, _, 64, rfl, rfl, ⟨by decide, by decide⟩, .inl ⟨_, rfl, _, rfl, _, many, rfl, rfl, m0, fin2 _ (md _).1 (md _).2⟩⟩
      · refine ⟨_, rfl, .inl ⟨cv, rfl, cv, 2147483549, rfl, rfl, (by show (0 : Int) < 2147483549; decide), _, rfl, 63839, t, rfl, rfl, .inl ⟨by decide, by decide⟩, _, _, rfl, rfl, _, 7243, rfl, rfl, _, 5, rfl, rfl, ⟨by decide, by decide, mixA cv⟩, .inl ⟨_, rfl, _, 2147483629, rfl, rfl, (by show (0 : Int) < 2147483629; decide), ?_⟩⟩⟩
        have hmx := mixB ((cv % 2147483549 + 63839 * t + 7243) ^ (5 : Int).toNat)
        dsimp only
        generalize (cv % 2147483549 + 63839 * t + 7243) ^ (5 : Int).toNat % 2147483629 = mx at hmx
        refine ⟨_, rfl, _, rfl, 2, t, rfl, rfl, .inl ⟨by decide, by decide⟩, _, 7537, rfl, rfl, mx, _, rfl, rfl, .inl ⟨by omega, by omega⟩, _, rfl, 604829, t, rfl, rfl, .inl ⟨by decide, by decide⟩, _, rfl, _, t, rfl, rfl, .inr ⟨by omega, by omega⟩, _, _, rfl, rfl, _, 63839, rfl, rfl, _, 3, rfl, rfl, ⟨by decide, by decide, mixC mx hmx⟩, .inl ⟨_, rfl, _, 2147483587, rfl, rfl, (by show (0 : Int) < 2147483587; decide), ?_⟩⟩
        exact ⟨_, rfl, _, 64, rfl, rfl, ⟨by decide, by decide⟩, .inl ⟨_, rfl, _, rfl, _, many, rfl, rfl, m0, fin2 _ (md _).1 (md _).2⟩⟩
end K72

set_option Elab.async false
set_option linter.all false
set_option maxRecDepth 100000
set_option maxHeartbeats 4000000
namespace K72
open PySem PySem.Spec PyProof.Rows L2 Fs
variable {w : World} {K : PySem.W.Frag} {mg : Str → Option Value} {base : Heap}

/-! ### beadle -/
def spBeadle (K : PySem.W.Frag) : Sp := fun vs H Q _ => ∃ a ns, vs = [.ref a] ∧ SqL K H a ((ns : List Int).map V.int) ∧ ∀ H' b, Ex H H' → H b = none → BSt K H' b 0 → Q (.ref b) H'
def rInt1 : List V → Hp → VK → Prop := fun xs H Q => (∃ i, xs = [.int i] ∧ Q (.int i) H) ∨ ∃ k, xs = [.bl k] ∧ Q (.int (if k then 1 else 0)) H
theorem call_intA {X : Cx} : CallR X (.type "int") rInt1 := call_int1
theorem cut60 (ns : List Int) : cutV (ns.map V.int) none (some 60) = (ns.take 60).map V.int := by
  unfold cutV
  have h1 : HT.sIx (ns.map V.int).length 0 none = 0 := rfl
  have h2 : HT.sIx (ns.map V.int).length (ns.map V.int).length (some 60) = min 60 ns.length := by
    rw [show (60 : Int) = ((60 : Nat) : Int) from rfl, HT.sIx_nat, List.length_map]
  rw [h1, h2]
  simp
theorem ok_beadle (T : Tx w K mg) : ∃ fd, FnP K d__law_beadle fd ∧ FnOk Pr w K mg base CX0 1 (He.fAd K d__law_beadle.at_) fd ["_law_script"] (spBeadle K) := by
  obtain ⟨fd, F⟩ := T.F__law_beadle
  refine ⟨fd, F, F.ok sc__law_beadle (fun vs H Q E h => ?_) fun cdv A outer s H vs Q E hr h => ?_⟩
  · obtain ⟨a, ns, rfl, _⟩ := h; rfl
  have nd := sc__law_beadle.nd
  refine ⟨_, PSs.nox (pss_one (ps_ret (pe_lst (pa_cons (pe_lc (own := [("_law_cell", 1)]) (g := gName 1) (tt := tYes) rfl nd (pi_list (pe_slice sl_list (pv 0) po_none (po_some pe_int))) (blkOk_by (N := N__law_beadle) (sc := defScope s__law_beadle) (by decide +kernel))
      (fun _ _ _ _ _ => pg_name (i := 1) nd rfl (Or.inl rfl)) (fun _ _ _ _ _ => pts_nil)
      (fun _ _ _ _ _ => pe_callTy (T := "int") call_intA rfl T.n_int (by decide +kernel) (pa_cons (pv 1) pa_nil))) (pa_cons pe_int (pa_cons pe_int pa_nil)))))), ?_⟩
  obtain ⟨a, ns, rfl, ha, q⟩ := h
  refine ⟨_, rfl, 60, rfl, a, _, rfl, ha, fun p hp => ?_⟩
  rw [cut60]
  have e1 : Ex H (upd H p (.lst ((ns.take 60).map V.int))) := Ex.new hp
  refine ⟨p, rfl, ⟨_, .of upd_same⟩, fun D hD => ?_⟩
  have hp1 : upd H p (.lst ((ns.take 60).map V.int)) p = some (.lst ((ns.take 60).map V.int)) := upd_same
  generalize upd H p (.lst ((ns.take 60).map V.int)) = H1 at e1 hp1 hD
  refine lc_list (K := K) (a := p) (xs := (ns.take 60).map V.int) (fun i H' => Ex H1 H' ∧ H' D = some (.lst (((ns.take 60).map V.int).take i))) ⟨Ex.new hD, upd_same⟩ (fun i H' hi z => .of (z.1 _ _ hp1)) (fun i x H' hx z => ?_) (fun H' z => ?_)
  · obtain ⟨z1, z2⟩ := z
    have h60 : i < 60 := by
      have : i < ((ns.take 60).map V.int).length := (List.getElem?_eq_some_iff.mp hx).1
      rw [List.length_map, List.length_take] at this
      omega
    have hxi : ∃ n, x = .int n := by
      rw [List.getElem?_map] at hx
      cases h : (ns.take 60)[i]? with
      | none => rw [h] at hx; cases hx
      | some n => rw [h] at hx; cases hx; exact ⟨n, rfl⟩
    obtain ⟨n, rfl⟩ := hxi
    refine ⟨rfl, yes_if ⟨_, rfl, .inl ⟨n, rfl, _, z2, ?_, Ex.upd z1 hD, ?_⟩⟩⟩
    · have : (60 : Nat) < sizeLine := by decide
      rw [List.length_take]; omega
    · have et : ((ns.take 60).map V.int).take (i + 1) = ((ns.take 60).map V.int).take i ++ [.int n] := by
        rw [List.take_add_one (i := i), hx]; rfl
      rw [upd_same, et]
  · obtain ⟨z1, z2⟩ := z
    rw [List.take_length] at z2
    refine ⟨by show 3 ≤ sizeLine; decide, fun b hb => ?_⟩
    have nD : D ≠ b := ne_of_none z2 hb
    exact q _ b ((e1.trans z1).trans (Ex.new hb)) ((e1.trans z1).back hb) ⟨D, ns.take 60, 0, 0, upd_same, (upd_ne nD).trans z2, nD, by rw [List.length_take]; omega, by omega, by omega, by omega⟩
/-! ### pick -/
def spPick (K : PySem.W.Frag) : Sp := fun vs H Q _ => ∃ b l xs T, vs = [.ref b, .ref l] ∧ SqL K H l xs ∧ l ≠ b ∧ 0 < xs.length ∧ xs.length < 1000000 ∧ BSt K H b T ∧ T ≤ 900000 ∧ ∀ (i : Nat) (x : V) H', xs[i]? = some x → BSt K H' b (T + 1) → ExB b H H' → Q x H'
theorem BSt.some {H : Hp} {b : Addr} {T : Int} (h : BSt K H b T) : ∃ ys, H b = some (.lst ys) := let ⟨_, _, _, _, h1, _⟩ := h; ⟨_, h1⟩
theorem sql_b {b l : Addr} {H H' : Hp} {xs : List V} (e : ExB b H H') (n : l ≠ b) (h : SqL K H l xs) : SqL K H' l xs := by
  rcases h with (h | ⟨o, h⟩) | h
  · exact .inl (.inl (e l _ n h))
  · exact .inl (.inr ⟨o, e l _ n h⟩)
  · exact .inr h
theorem ok_pick (T : Tx w K mg) : ∃ fd, FnP K d__law_pick fd ∧ FnOk Pr w K mg base CX0 2 (He.fAd K d__law_pick.at_) fd ["_law_beadle_here", "_law_some"] (spPick K) := by
  obtain ⟨fd, F⟩ := T.F__law_pick
  obtain ⟨fdS, FS, GS⟩ := ok_staff (base := base) T
  have bS : Binds K fdS ["_law_beadle_here", "_law_many"] [] := FS.bindsN fun _ _ _ _ _ _ us hl => match us, hl with | [_, _], _ => rfl
  refine ⟨fd, F, F.ok sc__law_pick (fun vs H Q E h => ?_) fun cdv A outer s H vs Q E hr h => ?_⟩
  · obtain ⟨b, l, xs, Tm, rfl, _⟩ := h; rfl
  refine ⟨_, PSs.nox (pss_one (ps_ret (pe_ix ix_list (pv 1) (pe_call GS hr rfl T.g__law_staff FS.kp bS .nil pass0 (pa_cons (pv 0) (pa_cons (pe_callB (r := rLenQ K) call_lenQ rfl T.n_len (by decide +kernel) (pa_cons (pv 1) pa_nil)) pa_nil))) (fun _ _ => rfl)))), ?_⟩
  obtain ⟨b, l, xs, Tm, rfl, hl, nl, h0, h1, hb, hT, q⟩ := h
  refine ⟨_, rfl, _, rfl, _, rfl, l, xs, rfl, .inl hl, b, _, Tm, rfl, by omega, by omega, hb, hT, fun r H' hr0 hr1 hb' ho => ?_⟩
  obtain ⟨k, rfl⟩ := Int.eq_ofNat_of_zero_le hr0
  have hlt : k < xs.length := by omega
  exact ⟨l, xs, (k : Nat), xs[k], rfl, rfl, sql_b ho nl hl, atI_nat (List.getElem?_eq_getElem hlt), q k _ H' (List.getElem?_eq_getElem hlt) hb' ho⟩
end K72

set_option Elab.async false
set_option linter.all false
set_option maxRecDepth 100000
set_option maxHeartbeats 4000000
namespace K72
open PySem PySem.Spec PyProof.Rows L2 Fs
section
variable {X : Cx} {k : Nat} {C f : Addr} {fd : FuncData} {sp : Sp}
/-- str(x) of an instance whose class has its own __str__ -/
def rStrOwn (C : Addr) (sp : Sp) : List V → Hp → VK → Prop := fun xs H Q => ∃ a dx fs, xs = [.ref a] ∧ H a = some (.ins C dx fs) ∧ sp [.ref a] H (fun v H' => ∃ y, v = .str y ∧ Q v H') E0
theorem call_strOwn (hm : Meth X.K C "__str__" f) (F : FnOk X.prog X.w X.K X.mg X.base CX0 k f fd ["self"] sp) (hr : Room (k + 2) X.A) (hb : Binds X.K fd ["self"] []) : CallR X (.type "str") (rStrOwn C sp) := by
  intro pins s σ H xs us Q I r h
  obtain ⟨a, dx, fs, rfl, ea, q⟩ := h
  cases r with
  | cons r0 r' =>
  cases r' with
  | nil =>
  cases r0
  obtain ⟨mA, O, _, _, _, _⟩ := ins_get I.hok ea
  obtain ⟨od, J, _⟩ := O.look
  have hr2 : Room k X.A.in1.in1 := (Room.in1 (k := k) (Room.in1 (k := k + 1) hr))
  refine PySem.W.kso_call (by have := hr2.un; omega) I.kIn J hm.at_ hm.fn ?_
  refine wpAny_call (codeAny_mono (F.run X.A.in1.in1 X.stack s H ⟨[.ref a], []⟩ [.ref a] [.ref a] _ E0 hr2 I.env0.in1.in1 (hb s [.ref a] I.kIn rfl) (.cons rfl .nil) q) fun rr s' hq => ?_)
  cases rr with
  | error e => exact False.elim hq
  | ok fl =>
    cases fl with
    | ret u =>
      obtain ⟨v, H', os, bare, un, hok, r, y, ey, qv⟩ := hq
      subst ey
      obtain ⟨t, rfl⟩ := r
      exact I.after ⟨.str y, H', os, bare, un, hok, ⟨t, rfl⟩, qv⟩
    | next => exact False.elim hq
    | brk => exact False.elim hq
    | cont => exact False.elim hq
/-- str(i), str(text) -/
def rStrE : List V → Hp → VK → Prop := fun xs H Q => (∃ i, xs = [.int i] ∧ i.natAbs.log2 < 1920 ∧ Q (.str (toString i)) H) ∨ ∃ a, xs = [.str a] ∧ Q (.str a) H
theorem call_strE : CallR X (.type "str") rStrE := by
  intro pins s σ H xs us Q I r h
  rcases h with h | h
  · exact call_str_int pins s σ H xs us Q I r h
  · exact SkE.call_str_str pins s σ H xs us Q I r h
end
variable {w : World} {K : PySem.W.Frag} {mg : Str → Option Value} {base : Heap}
/-- what str(value) is here -/
def tx : V → Str
  | .int i => toString i
  | .str a => a
  | _ => Str.empty
theorem len100 {i : Int} (h0 : 0 ≤ i) (h1 : i < 100) : (toString i : Str).length ≤ 10 := by
  obtain ⟨n, rfl⟩ := Int.eq_ofNat_of_zero_le h0
  have : ∀ n : Fin 100, (toString ((n.1 : Nat) : Int) : Str).length ≤ 10 := by decide +kernel
  exact this ⟨n, by omega⟩
theorem log100 {i : Int} (h0 : 0 ≤ i) (h1 : i < 100) : i.natAbs.log2 < 1920 := by
  have : i.natAbs.log2 < 7 := by
    rcases Nat.eq_zero_or_pos i.natAbs with h | h
    · rw [h]; decide
    · exact (Nat.log2_lt (by omega)).mpr (by omega)
  omega
def Short (l : Ln) : Prop := l.1.length ≤ 10 ∧ l.2.length ≤ 3 ∧ ∀ x ∈ l.2, 0 ≤ x ∧ x < 100
def spStr (K : PySem.W.Frag) : Sp := fun vs H Q _ => ∃ m st lines, vs = [.ref m] ∧ MouseAt K H m st lines ∧ 0 ≤ st ∧ st < 100 ∧ lines.length ≤ 2 ∧ (∀ l ∈ lines, Short l) ∧ ∀ y H', Ex H H' → Q (.str y) H'
theorem ok_str (T : Tx w K mg) : ∃ fd, FnP K d_MouseU_strU fd ∧ FnOk Pr w K mg base CX0 1 (He.fAd K d_MouseU_strU.at_) fd ["self"] (spStr K) := by
  obtain ⟨fd, F⟩ := T.F_MouseU_strU
  obtain ⟨tb, ib⟩ := T.s_BAR
  refine ⟨fd, F, F.ok sc_MouseU_strU (fun vs H Q E h => ?_) fun cdv A outer s H vs Q E hr h => ?_⟩
  · obtain ⟨m, st, lines, rfl, _⟩ := h; rfl
  have nd := sc_MouseU_strU.nd
  refine ⟨_, PSs.nox (pss_cons (ps_set (i := 1) nd rfl (Or.inl rfl) (pe_lst (pa_cons (pe_callTy (T := "str") call_str_int rfl T.n_str (by decide +kernel) (pa_cons (pe_fld (pv 0) rfl) pa_nil)) pa_nil)))
    (pss_cons (ps_for PassesOwn.never rfl (pi_tup (pe_fld (pv 0) rfl)) (pg_name (i := 2) nd rfl (Or.inl rfl))
      (pss_one (ps_expr (pe_bm PySem.F.plainAttrs_list PySem.F.slot_list_extend PySem.F.type_list_extend mt_extend (pv 1) (pa_cons (pe_lst (pa_cons (pe_glob rfl ib (v := .str "/") ⟨tb, rfl⟩) (StX.pa_star
        (by exact pe_lc (own := [("each", 3)]) (g := gName 3) (tt := tYes) rfl nd (pi_tup (pv 2)) (blkOk_by (N := N_MouseU_strU) (sc := defScope s_MouseU_strU) (by decide +kernel))
                    (fun _ _ _ _ _ => pg_name (i := 3) nd rfl (Or.inl rfl)) (fun _ _ _ _ _ => pts_nil)
                    (fun _ _ _ _ _ => pe_callTy (T := "str") (r := rStrE) call_strE rfl T.n_str (by decide +kernel) (pa_cons (pv 3) pa_nil)))
        pa_nil))) pa_nil)))))
    (pss_one (ps_ret (pe_join pe_str (pv 1)))))), ?_⟩
  obtain ⟨m, st, lines, rfl, hm, s0, s1, hl2, hsh, q⟩ := h
  obtain ⟨dx, L, hm1, refs, hL, hp⟩ := id hm
  have hrl : refs.length = lines.length := Paired.length hp
  refine ⟨_, rfl, m, _, dx, _, .int st, rfl, hm1, T.c_Mouse, T.a_Mouse_stones, rfl, st, rfl, log100 s0 s1, by show 1 ≤ sizeLine; decide, fun D hD => ?_⟩
  have e1 : Ex H (upd H D (.lst [.str (toString st)])) := Ex.new hD
  refine ⟨_, rfl, m, _, dx, _, .ref L, rfl, e1 _ _ hm1, T.c_Mouse, T.a_Mouse_lines, rfl, L, rfl, ⟨_, e1.st hL⟩, ?_⟩
  have l0 := len100 s0 s1
  refine for_tup (K := K) (a := L) (xs := refs.map V.ref) (fun i σ' H' => (∃ v2 v3, σ' = [some (.ref m), some (.ref D), v2, v3]) ∧ Ex H H' ∧ ∃ ys : List Str, H' D = some (.lst (ys.map V.str)) ∧ ys.length ≤ 1 + 5 * i ∧ (ys.map (·.length)).sum ≤ 10 * ys.length) ⟨⟨_, _, rfl⟩, e1, [toString st], upd_same, by simp, by simpa using l0⟩ (fun i σ' H' hi z => z.2.1.st hL) (fun i x σ' H' hx z => ?_) (fun σ' H' z => ?_)
  · obtain ⟨⟨v2, v3, rfl⟩, z1, ys, z2, z3, z4⟩ := z
    obtain ⟨a, ha, rfl⟩ : ∃ a, refs[i]? = some a ∧ x = .ref a := by
      rw [List.getElem?_map] at hx
      cases h : refs[i]? with
      | none => rw [h] at hx; cases hx
      | some a => rw [h] at hx; cases hx; exact ⟨a, rfl, rfl⟩
    obtain ⟨l, hl, hat⟩ := paired_at hp ha
    have hi2 : i < 2 := by
      have := (List.getElem?_eq_some_iff.mp hl).1
      omega
    obtain ⟨sh1, sh2, sh3⟩ := hsh l (List.mem_of_getElem? hl)
    have hat' : LineAt K H' a l := z1.st hat
    refine ⟨_, rfl, .inl ⟨rfl, _, .of z2⟩, _, rfl, a, rfl, ⟨_, hat'⟩, fun B hB => ?_⟩
    refine lc_tup (K := K) (a := a) (xs := Ln.v l) (fun j H2 => Ex H' H2 ∧ H2 B = some (.lst ((((Ln.v l).take j).map tx).map V.str))) ⟨Ex.new hB, upd_same⟩ (fun j H2 hj y => y.1.st hat') (fun j x H2 hx y => ?_) (fun H2 y => ?_)
    · obtain ⟨y1, y2⟩ := y
      refine ⟨rfl, yes_if ⟨_, rfl, ?_⟩⟩
      have hj4 : j < 5 := by
        have := (List.getElem?_eq_some_iff.mp hx).1
        simp [Ln.v] at this
        omega
      have fin : ∀ t, t = tx x → ∃ acc, H2 B = some (.lst acc) ∧ acc.length < sizeLine ∧ Ex H' (upd H2 B (.lst (acc ++ [V.str t]))) ∧ upd H2 B (.lst (acc ++ [V.str t])) B = some (.lst ((((Ln.v l).take (j + 1)).map tx).map V.str)) := fun t et => by
        refine ⟨_, y2, ?_, Ex.upd y1 hB, ?_⟩
        · have : (5 : Nat) < sizeLine := by decide
          simp only [List.length_map, List.length_take]
          omega
        · rw [upd_same, List.take_add_one (i := j), hx, List.map_append, List.map_append, et]
          rfl
      cases j with
      | zero =>
        have : x = .str l.1 := by simpa [Ln.v] using hx.symm
        subst this
        exact .inr ⟨_, rfl, fin _ rfl⟩
      | succ j =>
        obtain ⟨n, hn, rfl⟩ : ∃ n, l.2[j]? = some n ∧ x = .int n := by
          have hx' : (l.2.map V.int)[j]? = some x := by simpa [Ln.v] using hx
          rw [List.getElem?_map] at hx'
          cases h : l.2[j]? with
          | none => rw [h] at hx'; cases hx'
          | some n => rw [h] at hx'; cases hx'; exact ⟨n, rfl, rfl⟩
        obtain ⟨n0, n1⟩ := sh3 n (List.mem_of_getElem? hn)
        exact .inl ⟨_, rfl, log100 n0 n1, fin _ rfl⟩
    · obtain ⟨y1, y2⟩ := y
      rw [List.take_length] at y2
      have nDB : D ≠ B := ne_of_none z2 hB
      refine ⟨B, _, rfl, .inr (.of y2), ?_⟩
      refine ⟨?_, fun B2 hB2 => ?_⟩
      · have : (6 : Nat) < sizeLine := by decide
        simp [Ln.v]; omega
      have y3 := y1 _ _ z2
      refine ⟨D, B2, _, _, rfl, rfl, (upd_ne (ne_of_none y3 hB2)).trans y3, upd_same, ?_, ?_⟩
      · have : (100 : Nat) < sizeLine := by decide
        simp [Ln.v]; omega
      refine ⟨⟨_, _, rfl⟩, Ex.upd ((z1.trans y1).trans (Ex.new hB2)) hD, ys ++ (("/" : Str) :: (Ln.v l).map tx), ?_, ?_, ?_⟩
      · rw [upd_same]; simp
      · simp [Ln.v]; omega
      · have hs : ∀ (zs : List Int), (∀ x ∈ zs, 0 ≤ x ∧ x < 100) → ((zs.map (fun i => (toString i : Str))).map (·.length)).sum ≤ 10 * zs.length := fun zs => by
          induction zs with
          | nil => intro _; simp
          | cons a r ih =>
            intro h
            have h1 := ih fun x hx => h x (List.mem_cons_of_mem _ hx)
            have h2 := len100 (h a (List.mem_cons_self ..)).1 (h a (List.mem_cons_self ..)).2
            simp only [List.map_cons, List.sum_cons, List.length_cons]
            omega
        have h3 := hs l.2 sh3
        have h4 : ((Ln.v l).map tx) = l.1 :: l.2.map (fun i => (toString i : Str)) := by simp [Ln.v, tx]
        have h5 : ("/" : Str).length ≤ 10 := by decide
        rw [h4]
        simp only [List.map_append, List.map_cons, List.sum_append, List.sum_cons, List.length_append, List.length_cons, List.length_map]
        omega
  · obtain ⟨⟨v2, v3, rfl⟩, z1, ys, z2, z3, z4⟩ := z
    have : (refs.map V.ref).length ≤ 2 := by rw [List.length_map]; omega
    refine ⟨⟨_, rfl⟩, _, rfl, " ", D, ys, rfl, rfl, .inl (.inl (.inl z2)), ?_, q _ _ z1⟩
    have h5 : (" " : Str).length = 1 := by decide
    rw [h5]
    omega
theorem ok_strC (T : Tx w K mg) : ∃ fd, FnP K d_MouseU_strU fd ∧ FnOk Pr w K mg base CX0 1 (He.ma K (He.ga K "Mouse") "__str__") fd ["self"] (spStr K) ∧ Binds K fd ["self"] [] := by
  obtain ⟨fd, F, G⟩ := ok_str (base := base) T
  exact ⟨fd, F, G, F.bindsN fun _ _ _ _ _ _ us hl => match us, hl with | [_], _ => rfl⟩
end K72

set_option Elab.async false
set_option linter.all false
set_option maxRecDepth 100000
set_option maxHeartbeats 4000000
namespace K72
open PySem PySem.Spec PyProof.Rows L2 Fs LamX
variable {w : World} {K : PySem.W.Frag} {mg : Str → Option Value} {base : Heap}

/-- what is held behind the try: nothing (n = ""), or an exception of the class n -/
def CaughtAt (K : PySem.W.Frag) (H : Hp) (x : V) (n : Str) : Prop := (x = .non ∧ n = "") ∨ ∃ a dd fs, x = .ref a ∧ n ∈ excs ∧ H a = some (exq a (.ref (He.ga K n)) (some dd)) ∧ H dd = some (.xd fs)
theorem excC (T : Tx w K mg) {n : Str} (hn : n ∈ excs) : ExcC K (He.ga K n) := Fs.excCB_ok (List.all_eq_true.mp T.ex5 _ hn)
theorem xfC (T : Tx w K mg) {n : Str} (hn : n ∈ excs) : XfC K (He.ga K n) := let c := excC T hn; ⟨c.hg, c.hk, c.hs, c.hd⟩
theorem caught_is (T : Tx w K mg) {H : Hp} {x : V} {n y : Str} (h : CaughtAt K H x n) (hy : y ∈ excs) : ∃ t, TyQ K H x t ∧ PySem.W.kitOne K t (.ref (He.ga K y)) = some (n == y) := by
  rcases h with ⟨rfl, rfl⟩ | ⟨a, dd, fs, rfl, hn, h1, h2⟩
  · refine ⟨_, .inl (.base .non), ?_⟩
    have := kitB1_ok (List.all_eq_true.mp T.ex7 _ hy)
    have e : (("" : Str) == y) = false := by
      have : ∀ y ∈ excs, (("" : Str) == y) = false := by decide +kernel
      exact this y hy
    rw [e]
    exact this
  · exact ⟨_, .inr ⟨a, _, dd, fs, rfl, rfl, h1, h2, excC T hn⟩, kitB1_ok (List.all_eq_true.mp (List.all_eq_true.mp T.ex6 _ hn) _ hy)⟩
theorem CaughtAt.ex {H H' : Hp} {x : V} {n : Str} (h : CaughtAt K H x n) (e : Ex H H') : CaughtAt K H' x n := by
  rcases h with h | ⟨a, dd, fs, h0, hn, h1, h2⟩
  · exact .inl h
  · exact .inr ⟨a, dd, fs, h0, hn, e _ _ h1, e _ _ h2⟩
def wordOf (n : Str) : Str := if n = "BadMouse" then "mouse" else if n = "BadNumber" then "number" else "misfit"
/-- what heard answers where an exception of the class n, its fields fs, comes at H' -/
def Ends1 (K : PySem.W.Frag) (n : Str) (fs : List (Str × V)) (H' : Hp) (Q : VK) : Prop :=
  (n = "TooMany" ∧ ∃ x y, fs.lookup ("what" : Str) = some x ∧ fs.lookup ("most" : Str) = some y ∧ ∀ p H2, Ex H' H2 → H2 p = some (.tup [x, y]) → Q (.ref p) H2) ∨
  (n ∈ (["BadMouse", "BadNumber", "Misfit"] : List Str) ∧ ∃ y, fs.lookup ("part" : Str) = some y ∧ ∀ p H2, Ex H' H2 → H2 p = some (.tup [.str (wordOf n), y]) → Q (.ref p) H2)
def TH (K : PySem.W.Frag) : (XK → Hp → VK → Prop) → Hp → VK → Prop := fun tl H Q => ∀ (E' : XK) (Q' : VK), (∀ v H', (∀ H2, Ex H' H2 → Q .non H2) → Q' v H') →
  (∀ n dd fs H', n ∈ excs → H' dd = some (.xd fs) → Ends1 K n fs H' Q → E' (.ref (He.ga K n)) (some dd) H') → tl E' H Q'
theorem exm_of (T : Tx w K mg) {n : Str} (hn : n ∈ excs) : PySem.W.exmOne K (.ref (He.ga K n)) (.ref (He.ga K "StoneError")) = some true := by
  have h : n = "BadNumber" ∨ n = "BadMouse" ∨ n = "Misfit" ∨ n = "TooMany" := by simpa [excs] using hn
  rcases h with h | h | h | h <;> subst h
  · exact T.x_BadNumber_StoneError
  · exact T.x_BadMouse_StoneError
  · exact T.x_Misfit_StoneError
  · exact T.x_TooMany_StoneError
abbrev hCx (prog : Program) (w : World) (K : PySem.W.Frag) (mg : Str → Option Value) (base : Heap) (A : Around) (stack : List Env) (s : Shared) (H : Hp) (g : Addr) (cdg : Value) : Cx := cxOf C8.CX0 prog w K mg base N__law_heard "_law_heard" (defScope s__law_heard) g cdg A stack s H C8.E0
theorem heard_rest {prog : Program} {A : Around} {stack : List Env} (T : Tx w K mg) {g : Addr} {cdg : Value} (s : Shared) (H : Hp) (Q : VK) (f : Addr) :
    ∃ t, PSs (hCx prog w K mg base A stack s H g cdg).nox ((defBody s__law_heard).drop 2) t ∧ ∀ (x : V) (n : Str) (H1 : Hp), CaughtAt K H1 x n → (n = "" → ∀ H2, Ex H1 H2 → Q .non H2) →
      (n ≠ "" → ∃ a dd fs, x = .ref a ∧ n ∈ excs ∧ H1 a = some (exq a (.ref (He.ga K n)) (some dd)) ∧ H1 dd = some (.xd fs) ∧ Ends1 K n fs H1 Q) →
      t { nx := fun _ H' => Q .non H', rt := Q } [some (.ref f), some x, none, none, none, none, none] H1 := by
  have nd := sc__law_heard.nd
  have X1 := T.e_TooMany
  refine ⟨_, pss_cons (ps_if (pt_val (pe_callB (r := rIsQ K) call_isQ rfl T.n_isinstance (by decide +kernel) (pa_cons (pv 1) (pa_cons (pe_gref rfl T.g_TooMany) pa_nil)))) (pss_one (ps_ret (pe_tup (pa_cons (pe_xq (pv 1)) (pa_cons (pe_xq (pv 1)) pa_nil))))) pss_nil)
    (pss_cons (ps_set (i := 3) nd rfl (Or.inl rfl) (pe_lst (pa_cons (pe_tup (pa_cons pe_str (pa_cons (pe_callB (r := rIsQ K) call_isQ rfl T.n_isinstance (by decide +kernel) (pa_cons (pv 1) (pa_cons (pe_gref rfl T.g_BadMouse) pa_nil))) pa_nil)))
      (pa_cons (pe_tup (pa_cons pe_str (pa_cons (pe_callB (r := rIsQ K) call_isQ rfl T.n_isinstance (by decide +kernel) (pa_cons (pv 1) (pa_cons (pe_gref rfl T.g_BadNumber) pa_nil))) pa_nil)))
      (pa_cons (pe_tup (pa_cons pe_str (pa_cons (pe_callB (r := rIsQ K) call_isQ rfl T.n_isinstance (by decide +kernel) (pa_cons (pv 1) (pa_cons (pe_gref rfl T.g_Misfit) pa_nil))) pa_nil))) pa_nil)))))
    (pss_cons (ps_setLc (i := 4) (own := [("_law_word", 5), ("_law_is_so", 6)]) (g := gTup K 2 (gCons (gName 5) (gCons (gName 6) gNil))) rfl nd rfl rfl (sw_true rfl rfl (by decide) (by decide +kernel)) (pi_list (pv 3)) (blkOk_by (N := N__law_heard) (sc := defScope s__law_heard) (by decide +kernel))
        (fun _ _ _ _ _ => by exact pg_tup rfl (pgs_cons (pg_name (i := 5) nd rfl (Or.inl rfl)) (pgs_cons (pg_name (i := 6) nd rfl (Or.inl rfl)) pgs_nil))) (fun _ _ _ _ _ => pts_one (pt_val (pv 6)))
        (fun _ _ _ _ _ => pv 5))
    (pss_cons (ps_if (pt_cmpR op_eq (pe_callB (r := rLenQ K) call_lenQ rfl T.n_len (by decide +kernel) (pa_cons (pv 4) pa_nil)) pe_int (nomark _)) (pss_one (ps_ret (pe_tup (pa_cons (pe_ix ix_list (pv 4) pe_int (fun _ _ => rfl)) (pa_cons (pe_xq (pv 1)) pa_nil))))) pss_nil)
    (pss_one (ps_ret (pe_ifExp (pt_cmpR op_isN (pv 1) pe_non (nomark _)) pe_non (pe_tup (pa_cons pe_str (pa_cons pe_non pa_nil))))))))), ?_⟩
  intro x n H1 hx q0 q1
  obtain ⟨t0, ty0, k0⟩ := caught_is T hx (y := "TooMany") (by decide)
  refine ⟨x, rfl, x, .ref _, t0, _, _, rfl, .own _, ty0, k0, _, rfl, iteB (fun z => ?_) fun z => ?_⟩
  · have en : n = "TooMany" := by simpa using z
    subst en
    obtain ⟨a, dd, fs, rfl, hn, h1, h2, he⟩ := q1 (by decide)
    rcases he with ⟨_, x1, y1, l1, l2, q⟩ | ⟨hm, _⟩
    · refine ⟨_, rfl, a, _, dd, fs, x1, rfl, h1, xfC T hn, X1.noat "what" (by simp [e_TooMany]), h2, l1, _, rfl, a, _, dd, fs, y1, rfl, h1, xfC T hn, X1.noat "most" (by simp [e_TooMany]), h2, l2, by show 2 ≤ sizeLine; decide, fun p hp => q p _ (Ex.new hp) upd_same⟩
    · exact absurd hm (by decide)
  · have en : n ≠ "TooMany" := by simpa using z
    obtain ⟨t1, ty1, k1⟩ := caught_is T hx (y := "BadMouse") (by decide)
    refine ⟨x, rfl, x, .ref _, t1, _, _, rfl, .own _, ty1, k1, by show 2 ≤ sizeLine; decide, fun p1 hp1 => ?_⟩
    have e1 : Ex H1 (upd H1 p1 (.tup [.str "mouse", .bl (n == "BadMouse")])) := Ex.new hp1
    have s1 : upd H1 p1 (.tup [.str "mouse", .bl (n == "BadMouse")]) p1 = some (.tup [.str "mouse", .bl (n == "BadMouse")]) := upd_same
    generalize upd H1 p1 (.tup [.str "mouse", .bl (n == "BadMouse")]) = H2 at e1 s1
    obtain ⟨t2, ty2, k2⟩ := caught_is T (hx.ex e1) (y := "BadNumber") (by decide)
    refine ⟨x, rfl, x, .ref _, t2, _, _, rfl, .own _, ty2, k2, by show 2 ≤ sizeLine; decide, fun p2 hp2 => ?_⟩
    have e2 : Ex H2 (upd H2 p2 (.tup [.str "number", .bl (n == "BadNumber")])) := Ex.new hp2
    have s2 : upd H2 p2 (.tup [.str "number", .bl (n == "BadNumber")]) p2 = some (.tup [.str "number", .bl (n == "BadNumber")]) := upd_same
    generalize upd H2 p2 (.tup [.str "number", .bl (n == "BadNumber")]) = H3 at e2 s2
    obtain ⟨t3, ty3, k3⟩ := caught_is T (hx.ex (e1.trans e2)) (y := "Misfit") (by decide)
    refine ⟨x, rfl, x, .ref _, t3, _, _, rfl, .own _, ty3, k3, by show 2 ≤ sizeLine; decide, fun p3 hp3 => ?_⟩
    have e3 : Ex H3 (upd H3 p3 (.tup [.str "misfit", .bl (n == "Misfit")])) := Ex.new hp3
    have s3 : upd H3 p3 (.tup [.str "misfit", .bl (n == "Misfit")]) p3 = some (.tup [.str "misfit", .bl (n == "Misfit")]) := upd_same
    generalize upd H3 p3 (.tup [.str "misfit", .bl (n == "Misfit")]) = H4 at e3 s3
    refine ⟨by show 3 ≤ sizeLine; decide, fun r hr => ?_⟩
    have e4 : Ex H4 (upd H4 r (.lst [.ref p1, .ref p2, .ref p3])) := Ex.new hr
    have sr : upd H4 r (.lst [.ref p1, .ref p2, .ref p3]) r = some (.lst [.ref p1, .ref p2, .ref p3]) := upd_same
    have s1' := e4 _ _ (e3 _ _ (e2 _ _ s1))
    have s2' := e4 _ _ (e3 _ _ s2)
    have s3' := e4 _ _ s3
    have e5 := e1.trans (e2.trans (e3.trans e4))
    generalize upd H4 r (.lst [.ref p1, .ref p2, .ref p3]) = H5 at e5 sr s1' s2' s3'
    refine ⟨_, rfl, r, rfl, ⟨_, .of sr⟩, fun D hD => ?_⟩
    have ws : ∃ ws : List (Str × Bool), ws = [(("mouse" : Str), n == "BadMouse"), (("number" : Str), n == "BadNumber"), (("misfit" : Str), n == "Misfit")] := ⟨_, rfl⟩
    obtain ⟨ws, hws⟩ := ws
    refine lc_list (K := K) (a := r) (xs := [.ref p1, .ref p2, .ref p3]) (fun i H' => Ex H5 H' ∧ H' D = some (.lst (((ws.take i).filter (·.2)).map fun y => V.str y.1))) ⟨Ex.new hD, upd_same⟩ (fun i H' hi z => .of (z.1 _ _ sr)) (fun i y H' hy z => ?_) (fun H' z => ?_)
    · obtain ⟨z1, z2⟩ := z
      have hi : i < 3 := (List.getElem?_eq_some_iff.mp hy).1
      have hpt : ∃ p word b, y = .ref p ∧ H' p = some (.tup [.str word, .bl b]) ∧ ws[i]? = some (word, b) := by
        rw [hws]
        match i, hi, hy with
        | 0, _, hy => cases hy; exact ⟨_, _, _, rfl, z1 _ _ s1', rfl⟩
        | 1, _, hy => cases hy; exact ⟨_, _, _, rfl, z1 _ _ s2', rfl⟩
        | 2, _, hy => cases hy; exact ⟨_, _, _, rfl, z1 _ _ s3', rfl⟩
      obtain ⟨p, word, b, rfl, hp, hw⟩ := hpt
      refine ⟨p, _, rfl, .of hp, rfl, _, _, rfl, _, _, rfl, rfl, rfl, _, rfl, _, rfl, iteB (fun zb => ?_) fun zb => ?_⟩
      · subst zb
        refine ⟨_, rfl, _, z2, ?_, Ex.upd z1 hD, ?_⟩
        · have h3 : (3 : Nat) < sizeLine := by decide
          have := List.length_filter_le (·.2) (ws.take i)
          simp only [List.length_map]
          have := List.length_take_le i ws
          omega
        · rw [upd_same, List.take_add_one (i := i), hw, List.filter_append, List.map_append]
          rfl
      · subst zb
        refine ⟨z1, ?_⟩
        rw [List.take_add_one (i := i), hw, List.filter_append, z2]
        simp
    · obtain ⟨z1, z2⟩ := z
      have z2 : H' D = some (.lst ((ws.filter (·.2)).map fun y => V.str y.1)) := by
        have : ws.take [V.ref p1, V.ref p2, V.ref p3].length = ws := by rw [hws]; rfl
        rw [this] at z2
        exact z2
      have e6 := e5.trans z1
      by_cases hne : n = ""
      · subst hne
        have ew : (ws.filter (·.2)).map (fun y => V.str y.1) = [] := by rw [hws]; rfl
        rw [ew] at z2
        have hxn : x = .non := by
          rcases hx with ⟨h, _⟩ | ⟨_, _, _, _, h, _⟩
          · exact h
          · exact absurd h (by decide)
        subst hxn
        refine ⟨_, rfl, D, [], rfl, .inl (.of z2), rfl, _, rfl, iteB (fun zz => absurd (of_decide_eq_true zz) (by simp)) fun _ => ?_⟩
        exact ⟨_, rfl, rfl, _, rfl, iteT (q0 rfl _ e6)⟩
      · obtain ⟨a, dd, fs, rfl, hn, h1, h2, he⟩ := q1 hne
        rcases he with ⟨h, _⟩ | ⟨hm, y1, l1, q⟩
        · exact absurd h en
        have hm3 : n = "BadMouse" ∨ n = "BadNumber" ∨ n = "Misfit" := by simpa using hm
        have hno : PySem.W.findIn K (.ref (He.ga K n)) "part" = some none := by
          rcases hm3 with h | h | h <;> subst h
          · exact T.e_BadMouse.noat "part" (by simp [e_BadMouse])
          · exact T.e_BadNumber.noat "part" (by simp [e_BadNumber])
          · exact T.e_Misfit.noat "part" (by simp [e_Misfit])
        have ew : (ws.filter (·.2)).map (fun y => V.str y.1) = [.str (wordOf n)] := by
          rw [hws]
          rcases hm3 with h | h | h <;> subst h <;> rfl
        rw [ew] at z2
        refine ⟨_, rfl, D, _, rfl, .inl (.of z2), rfl, _, rfl, iteT ?_⟩
        exact ⟨_, rfl, D, _, 0, _, rfl, rfl, .of z2, atI_nat (j := 0) rfl, _, rfl, a, _, dd, fs, y1, rfl, e6 _ _ h1, xfC T hn, hno, e6 _ _ h2, l1, by show 2 ≤ sizeLine; decide, fun p hp => q p _ (e6.trans (Ex.new hp)) upd_same⟩
theorem heard_gives0 {prog : Program} {A : Around} {stack : List Env} (T : Tx w K mg) {g : Addr} {cdg : Value} {q : Str} (f c' : Addr) (s : Shared) (H : Hp) (Q : VK) (tl : XK → Hp → VK → Prop)
    (act : ∀ (W : WX) (pn : List (Addr × Obj)) (xe : Value → Shared → Prop) (E : XK) (p1 p2 : Pos), Takes ((hCx prog w K mg base A stack s H g cdg).tr pn xe) W →
      PE ((hCx prog w K mg base A stack s H g cdg).tr pn xe) (.Call (.Name "_law_ask" p1) [] [] p2) (fun σZ HZ Q => σZ[0]? = some (some (.ref f)) ∧ HZ c' = some (CodeO c' q) ∧ (∀ cls d H', E cls d H' → W cls d σZ H') ∧ tl E HZ Q))
    (hc : H c' = some (CodeO c' q)) (h : TH K tl H Q) : ∃ t, PSs (hCx prog w K mg base A stack s H g cdg).nox (defBody s__law_heard) t ∧ t { nx := fun _ H' => Q .non H', rt := Q } (L2.start N__law_heard [.ref f]) H := by
  have nd := sc__law_heard.nd
  obtain ⟨tr, htr, hsem⟩ := heard_rest (base := base) (prog := prog) (A := A) (stack := stack) T (g := g) (cdg := cdg) s H Q f
  refine ⟨_, pss_cons (ps_set (i := 1) nd rfl (Or.inl rfl) pe_non)
    (pss_cons (ps_try_keep (i := 2) (c := .ref (He.ga K "StoneError"))
        (tb := fun W D σ H => ∃ Ech : XK, σ[0]? = some (some (.ref f)) ∧ H c' = some (CodeO c' q) ∧ (∀ cls d H', Ech cls d H' → W cls d σ H') ∧ tl Ech H (fun _ H' => D.nx σ H'))
        rfl rfl rfl nd rfl rfl ⟨rfl, by decide, .inl T.g_StoneError⟩ LamX.takes0 (fun W pn xe tk _ => ?_) (fun a oe cls d pn _ _ => pss_one (ps_set (i := 1) nd rfl (Or.inl rfl) (pv 2)))) htr), ?_⟩
  · refine ⟨fun pins s' σ H' D I h' => ?_⟩
    obtain ⟨Ech, h1, h2, hW, h3⟩ := h'
    exact (pss_one (ps_expr (act W pn xe Ech _ _ tk))).run pins s' σ H' D I ⟨h1, h2, hW, h3⟩
  · refine ⟨fun cls d H' => ∃ n dd fs, cls = .ref (He.ga K n) ∧ d = some dd ∧ n ∈ excs ∧ H' dd = some (.xd fs) ∧ Ends1 K n fs H' Q, rfl, hc, fun cls d H' hE => ?_, ?_⟩
    · obtain ⟨n, dd, fs, rfl, rfl, hn, hd, he⟩ := hE
      refine ⟨true, exm_of T hn, fun _ a ha => ?_, fun z => by cases z⟩
      refine ⟨_, rfl, ?_⟩
      have ee : Ex H' (upd H' a (exq a (.ref (He.ga K n)) (some dd))) := Ex.new ha
      have hne : n ≠ "" := fun z => by subst z; exact absurd hn (by decide)
      have he' : Ends1 K n fs (upd H' a (exq a (.ref (He.ga K n)) (some dd))) Q := by
        rcases he with ⟨h1, x1, y1, l1, l2, q⟩ | ⟨h1, y1, l1, q⟩
        · exact .inl ⟨h1, x1, y1, l1, l2, fun p H2 e z => q p H2 (ee.trans e) z⟩
        · exact .inr ⟨h1, y1, l1, fun p H2 e z => q p H2 (ee.trans e) z⟩
      exact hsem (.ref a) n _ (.inr ⟨a, dd, fs, rfl, hn, upd_same, ee _ _ hd⟩) (fun z => absurd z hne) (fun _ => ⟨a, dd, fs, rfl, hn, upd_same, ee _ _ hd, he'⟩)
    · refine h _ _ (fun v H' q => ?_) (fun n dd fs H' hn hd he => ⟨n, dd, fs, rfl, rfl, hn, hd, he⟩)
      exact hsem .non "" H' (.inl ⟨rfl, rfl⟩) (fun _ => q) (fun z => absurd rfl z)
theorem heard_gives {X : Cx} (T : Tx X.w X.K X.mg) {g : Addr} {cdg : Value} {q : Str} :
    GivesS X N__law_heard "_law_heard" (defScope s__law_heard) g cdg (defBody s__law_heard) "_law_ask" q (TH X.K) :=
  fun f c' s H Q tl act hc h => heard_gives0 T f c' s H Q tl act hc h
end K72

set_option Elab.async false
set_option linter.all false
set_option maxRecDepth 100000
set_option maxHeartbeats 4000000
namespace K72
open PySem PySem.Spec PyProof.Rows L2 Fs
variable {w : World} {K : PySem.W.Frag} {mg : Str → Option Value} {base : Heap}

/-! ### a new mouse -/
theorem mk_mouse {H1 : Hp} {l : Addr} {refs : List Addr} {lines : List Ln} {st : Int} {Q : VK} {E : XK} (s0 : 0 ≤ st) (s12 : st ≤ 12) (hl : SqL K H1 l (refs.map V.ref)) (hp : Paired (LineAt K H1) refs lines) (n1 : 1 ≤ lines.length) (n2 : lines.length ≤ 6000)
    (hg : ∀ ln ∈ lines, Good st lines.length ln) (q : ∀ m H', Ex H1 H' → H1 m = none → MouseAt K H' m st lines → Q (.ref m) H') :
    ∀ x dx, H1 x = none → H1 dx = none → dx ≠ x → spMouse K (.ref x :: ([.int st, .ref l] ++ [])) (upd (upd H1 dx (.own x)) x (.ins (He.ga K "Mouse") dx [])) (fun v H2 => v = .non ∧ Q (.ref x) H2) E := by
  intro x dx hx hdx hne
  have e6 : Ex H1 (upd H1 dx (.own x)) := Ex.new hdx
  have hx6 : upd H1 dx (.own x) x = none := by rw [upd_ne (Ne.symm hne)]; exact hx
  have e7 : Ex H1 (upd (upd H1 dx (.own x)) x (.ins (He.ga K "Mouse") dx [])) := e6.trans (Ex.new hx6)
  refine ⟨x, st, l, refs, lines, dx, rfl, upd_same, s0, s12, e7.sl hl, lines_ex e7 hp, n1, n2, hg, fun H8 e8 hm => ⟨rfl, q x H8 (fun b o hb => e8 b o (ne_of_none hb hx) (e7 b o hb)) hx hm⟩⟩
theorem good_by {st n : Int} {l : Ln} (f : Str) (hf : (l.1, f) ∈ formsL) (hl : l.2.length = f.cps.size) (h : ∀ (i : Nat) (x : Int) (c : Nat), l.2[i]? = some x → f.cps[i]? = some c → c ∈ letters ∧ 0 ≤ x ∧ x ≤ mostI c st n) : Good st n l := ⟨f, hf, hl, h⟩
theorem good_turn {st n x : Int} (h0 : 0 ≤ x) (h1 : x ≤ n - 1) : Good st n ("turn", [x]) := good_by "n" (by show (("turn" : Str), ("n" : Str)) ∈ formsL; decide) rfl fun i y c hy hc => by
  match i, hy, hc with
  | 0, hy, hc => cases hy; cases hc; exact ⟨by decide, h0, h1⟩
  | i + 1, hy, hc => simp at hy
theorem good_say {st n c x : Int} (c0 : 0 ≤ c) (c1 : c ≤ 1000000000) (h0 : 0 ≤ x) (h1 : x ≤ n - 1) : Good st n ("say", [c, x]) := good_by "mn" (by show (("say" : Str), ("mn" : Str)) ∈ formsL; decide) rfl fun i y c hy hc => by
  match i, hy, hc with
  | 0, hy, hc => cases hy; cases hc; exact ⟨by decide, c0, c1⟩
  | 1, hy, hc => cases hy; cases hc; exact ⟨by decide, h0, h1⟩
  | i + 2, hy, hc => simp at hy
theorem good_lay {st n s x : Int} (c0 : 0 ≤ s) (c1 : s ≤ st - 1) (h0 : 0 ≤ x) (h1 : x ≤ n - 1) : Good st n ("lay", [s, 4, x]) := good_by "spn" (by show (("lay" : Str), ("spn" : Str)) ∈ formsL; decide) rfl fun i y c hy hc => by
  match i, hy, hc with
  | 0, hy, hc => cases hy; cases hc; exact ⟨by decide, c0, c1⟩
  | 1, hy, hc => cases hy; cases hc; exact ⟨by decide, by decide, by show (4 : Int) ≤ 4; decide⟩
  | 2, hy, hc => cases hy; cases hc; exact ⟨by decide, h0, h1⟩
  | i + 3, hy, hc => simp at hy
theorem good_stop {st n : Int} : Good st n ("stop", []) := good_by "" (by decide) rfl fun i y c hy hc => by simp at hy

/-! ### ring -/
def ringS (word : Str) (long : Nat) (c : Int) : List Ln := (List.range long).map fun (i : Nat) => if word = "turn" then (("turn", [((i : Int) + 1) % (long : Int)]) : Ln) else ("say", [c, ((i : Int) + 1) % (long : Int)])
theorem ringS_len {word : Str} {long : Nat} {c : Int} : (ringS word long c).length = long := by simp [ringS]
theorem ringS_at {word : Str} {long : Nat} {c : Int} {i : Nat} (h : i < long) : (ringS word long c)[i]? = some (if word = "turn" then (("turn", [((i : Int) + 1) % (long : Int)]) : Ln) else ("say", [c, ((i : Int) + 1) % (long : Int)])) := by
  unfold ringS
  rw [List.getElem?_map, List.getElem?_range h]
  rfl
def spRing (K : PySem.W.Frag) : Sp := fun vs H Q _ => ∃ b T word long st, vs = [.ref b, .str word, .int ((long : Nat) : Int), .int st] ∧ (word = "turn" ∨ word = "say") ∧ 1 ≤ long ∧ long ≤ 6000 ∧ 0 ≤ st ∧ st ≤ 12 ∧ BSt K H b T ∧ T ≤ 900000 ∧
  ∀ m H' c, 0 ≤ c → c < 9 → BSt K H' b (T + 1) → ExB b H H' → MouseAt K H' m st (ringS word long c) → Q (.ref m) H'
theorem BSt.ex {H H' : Hp} {b : Addr} {T : Int} (h : BSt K H b T) (e : Ex H H') : BSt K H' b T := let ⟨c, ns, t, left, h1, h2, h3⟩ := h; ⟨c, ns, t, left, e _ _ h1, e _ _ h2, h3⟩
theorem ok_ring (T : Tx w K mg) : ∃ fd, FnP K d__law_ring fd ∧ FnOk Pr w K mg base CX0 7 (He.fAd K d__law_ring.at_) fd ["_law_beadle_here", "_law_word", "_law_long", "_law_stones"] (spRing K) := by
  obtain ⟨fd, F⟩ := T.F__law_ring
  obtain ⟨fdS, FS, GS⟩ := ok_staff (base := base) T
  obtain ⟨fdM, FM, GM⟩ := ok_mouse (base := base) T
  have bS : Binds K fdS ["_law_beadle_here", "_law_many"] [] := FS.bindsN fun _ _ _ _ _ _ us hl => match us, hl with | [_, _], _ => rfl
  have bM : Binds K fdM ["self", "stones", "lines"] [] := FM.bindsN fun _ _ _ _ _ _ us hl => match us, hl with | [_, _, _], _ => rfl
  refine ⟨fd, F, F.ok sc__law_ring (fun vs H Q E h => ?_) fun cdv A outer s H vs Q E hr h => ?_⟩
  · obtain ⟨b, Tm, word, long, st, rfl, _⟩ := h; rfl
  have nd := sc__law_ring.nd
  refine ⟨_, PSs.nox (pss_cons (ps_set (i := 4) nd rfl (Or.inr rfl) (pe_call GS (hr.mono (by decide)) rfl T.g__law_staff FS.kp bS .nil pass0 (pa_cons (pv 0) (pa_cons pe_int pa_nil))))
    (pss_one (ps_ret (pe_make T.k_Mouse GM hr rfl T.g_Mouse bM .nil pass0 (pa_cons (pv 3) (pa_cons
      (pe_lc (own := [("_law_at", 5)]) (g := gName 5) (tt := tYes) rfl nd (pi_range1 rfl T.n_range (pa_cons (pv 2) pa_nil)) (blkOk_by (N := N__law_ring) (sc := defScope s__law_ring) (by decide +kernel))
        (fun _ _ _ _ _ => pg_name (i := 5) nd rfl (Or.inl rfl)) (fun _ _ _ _ _ => pts_nil)
        (fun _ _ _ _ _ => pe_ifExp (pt_cmpR op_eq (pv 1) pe_str (nomark _))
          (pe_tup (pa_cons (pv 1) (pa_cons (pe_op op_mod (pe_callTy (T := "int") call_int1 rfl T.n_int (by decide +kernel) (pa_cons (pe_op op_add (pv 5) pe_int) pa_nil)) (pv 2)) pa_nil)))
          (pe_tup (pa_cons (pv 1) (pa_cons (pv 4) (pa_cons (pe_op op_mod (pe_callTy (T := "int") call_int1 rfl T.n_int (by decide +kernel) (pa_cons (pe_op op_add (pv 5) pe_int) pa_nil)) (pv 2)) pa_nil)))))) pa_nil)))))), ?_⟩
  obtain ⟨b, Tm, word, long, st, rfl, hw, l1, l2, s0, s12, hb, hT, q⟩ := h
  refine ⟨_, rfl, b, 9, Tm, rfl, by decide, by decide, hb, hT, fun c H1 c0 c9 hb1 o1 => ?_⟩
  refine ⟨_, rfl, _, rfl, (long : Int), rfl, by omega, by omega, fun D hD => ?_⟩
  refine lc_range (fun i H' => Ex H1 H' ∧ ∃ refs : List Addr, H' D = some (.lst (refs.map V.ref)) ∧ Paired (LineAt K H') refs ((ringS word long c).take i)) ⟨Ex.new hD, [], upd_same, .nil⟩ (fun i H' hi z => ?_) (fun H' z => ?_)
  · obtain ⟨z1, refs, z2, z3⟩ := z
    have hi' : i < long := by omega
    have hrl : refs.length = i := by
      have := Paired.length z3
      rw [List.length_take, ringS_len] at this
      omega
    have fin : ∀ (l : Ln) (t : Addr), H' t = none → (ringS word long c)[i]? = some l → ∃ acc, upd H' t (.tup (Ln.v l)) D = some (.lst acc) ∧ acc.length < sizeLine ∧ Ex H1 (upd (upd H' t (.tup (Ln.v l))) D (.lst (acc ++ [V.ref t]))) ∧ ∃ refs : List Addr, upd (upd H' t (.tup (Ln.v l))) D (.lst (acc ++ [V.ref t])) D = some (.lst (refs.map V.ref)) ∧ Paired (LineAt K (upd (upd H' t (.tup (Ln.v l))) D (.lst (acc ++ [V.ref t])))) refs ((ringS word long c).take (i + 1)) := fun l t ht hl => by
      have nD : D ≠ t := ne_of_none z2 ht
      have et : Ex H' (upd H' t (.tup (Ln.v l))) := Ex.new ht
      have z4 := et _ _ z2
      have hat : LineAt K (upd H' t (.tup (Ln.v l))) t l := .of upd_same
      generalize upd H' t (.tup (Ln.v l)) = H2 at et z4 hat
      have h6 : (6000 : Nat) < sizeLine := by decide
      refine ⟨_, z4, by rw [List.length_map]; omega, Ex.upd (z1.trans et) hD, refs ++ [t], ?_, ?_⟩
      · rw [upd_same, List.map_append]; rfl
      · rw [List.take_add_one, hl]
        have ext3 : ExT H2 (upd H2 D (.lst (refs.map V.ref ++ [V.ref t]))) := ext_at z4 (fun _ z => by cases z) (fun _ _ z => by cases z)
        exact paired_snoc (Fs.Paired.mono (fun _ _ z => (et.st z).imp (ext3 _ _) id) z3) (hat.imp (ext3 _ _) id)
    refine ⟨rfl, yes_if ?_⟩
    have hat := ringS_at (word := word) (c := c) hi'
    have e0 : (0 : Int) + (i : Int) = (i : Int) := by omega
    refine ⟨_, rfl, rfl, _, rfl, iteB (fun zw => ?_) fun zw => ?_⟩
    · have ew : word = "turn" := V.str.inj (of_decide_eq_true zw)
      rw [if_pos ew] at hat
      subst ew
      refine ⟨_, rfl, _, rfl, _, 1, rfl, rfl, .inl ⟨_, rfl, _, rfl, _, (long : Int), rfl, rfl, by omega, by show 2 ≤ sizeLine; decide, fun t ht => ?_⟩⟩
      rw [e0]
      exact fin _ t ht hat
    · have ew : word ≠ "turn" := fun e => absurd (congrArg V.str e) (of_decide_eq_false zw)
      rw [if_neg ew] at hat
      have ew2 : word = "say" := hw.resolve_left ew
      subst ew2
      refine ⟨_, rfl, _, rfl, _, rfl, _, 1, rfl, rfl, .inl ⟨_, rfl, _, rfl, _, (long : Int), rfl, rfl, by omega, by show 3 ≤ sizeLine; decide, fun t ht => ?_⟩⟩
      rw [e0]
      exact fin _ t ht hat
  · obtain ⟨z1, refs, z2, z3⟩ := z
    have el : (ringS word long c).take ((long : Int)).toNat = ringS word long c := by
      rw [show ((long : Int)).toNat = (ringS word long c).length from by rw [ringS_len]; rfl, List.take_length]
    rw [el] at z3
    refine mk_mouse s0 s12 (.of z2) z3 (by rw [ringS_len]; exact l1) (by rw [ringS_len]; exact l2) (fun ln hln => ?_) fun m H2 e2 hm2 hm => q m H2 c c0 c9 ((hb1.ex z1).ex e2) (o1.trans (ExB.of (z1.trans e2))) hm
    obtain ⟨i, hi, rfl⟩ := List.mem_map.mp hln
    rw [ringS_len]
    have m0 := Int.emod_nonneg ((i : Int) + 1) (b := (long : Int)) (by omega)
    have m1 := Int.emod_lt_of_pos ((i : Int) + 1) (b := (long : Int)) (by omega)
    split
    · exact good_turn m0 (by omega)
    · exact good_say c0 (by omega) m0 (by omega)
end K72

set_option Elab.async false
set_option linter.all false
set_option maxRecDepth 100000
set_option maxHeartbeats 4000000
namespace K72
open PySem PySem.Spec PyProof.Rows L2 Fs LamX
section
variable {X : Cx} {CX : CXT} {k : Nat} {f : Addr} {fd : FuncData} {ps ks : List Str} {sp : Sp} {E : XK} {x : Str} {p pos : Pos} {kws : List Keyword} {tk : TA} {g : List Value → List Value → List Value} {gV : List V → List V → List V}
/-- f(k = v, ..), nothing by position -/
theorem pe_callK0 (F : FnOk X.prog X.w X.K X.mg X.base CX k f fd ps sp) (hr : Room k X.A) (hg : Gl X x) (hm : X.mg x = some (.ref f)) (hk : PySem.W.keepIn X.K (.ref f) = true) (hb : KBinds X.K fd ps ks g gV) (hx : Passes CX X E)
    (hkw : PK X kws tk) (hall : (backToKw pos (keywordEach kws X.env)).all (·.1.isSome) = true := by rfl) (hks : (backToKw pos (keywordEach kws X.env)).filterMap (·.1) = ks := by rfl)
    (hdb : (x == ("__debug__" : Str)) = false := by decide)
    (hpl : ((backTo pos (starEach [] X.env)).any (·.1) || (backToKw pos (keywordEach kws X.env)).any (·.1.isNone)) = false := by rfl) :
    PE X (.Call (.Name x p) [] kws pos) (fun σ H Q => tk σ H fun zs H2 => sp (gV [] zs) H2 Q E) := by
  refine ⟨fun pins s σ H Q I h => ?_⟩
  refine wpAny_Call_Name_kw (ld_glob I hg hm ?_ hdb)
  refine PySem.W.callWith_KW0 (first := []) (h₀ := X.base) I.ok.mod.kin hk hall (thn (hkw.run pos pins s σ H _ I h) fun ws s2 ⟨zs, H2, I2, rz, q2⟩ => ⟨I2.kIn, ?_⟩) hpl
  rw [hks]
  exact run_fnk F hr hb hx I2 .nil rz q2
theorem passF {X : Cx} : Passes (L2.CX X.prog X.w) X (fun _ _ _ => False) := fun _ _ _ _ _ _ _ ⟨_, _, _, _, _, _, _, _, _, _, _, _, z⟩ => z.elim
theorem lam_takes {X : Cx} {A : Around} {outer : List Env} {s : Shared} {H : Hp} {E : XK} {scope : Scope} {f c' : Addr} : Takes (lamCx X A outer s H E scope f c') (fun cls d _ H => E cls d H) := takes_of rfl rfl rfl rfl
end
variable {w : World} {K : PySem.W.Frag} {mg : Str → Option Value} {base : Heap}
/-- _law_heard(lambda ..: body) -/
theorem pe_heard {X : Cx} (T : Tx X.w X.K X.mg) {Tb : List (Addr × Str)} {c P : Addr} {k : Nat} {is : List Int} {ps : List Str} {params : Arguments} {body : Expr} {scope : Scope} {t : XK → TE} {p lpos pos : Pos} (hg : Gl X "_law_heard") (TB : TabB X.base X.mg c P) (hcode : X.env.code = .ref c)
    (hmT : (P, X.env.qual ++ "<lambda>") ∈ Tb) (hu : ∀ p ∈ Tb, p.1 = P → p.2 = X.env.qual ++ "<lambda>") (hr : Room (k + 2) X.A) (L : LamD X.N ps X.env.scope scope) (D : Dfs params is) (hps : ps.length = is.length) (hbind : LamBind ps is params body scope)
    (hbody : ∀ (A : Around) (outer : List Env) (s : Shared) (H : Hp) (E : XK) (f c' : Addr), Room k (A.deeper (lamEnv X scope s.heap.objs.size f c')) → PE (lamCx X A outer s H E scope f c') body (t E)) :
    PE X (.Call (.Name "_law_heard" p) [.Lambda params body scope lpos] [] pos) (tLam Tb (TH X.K) t) := by
  obtain ⟨fd, F⟩ := T.F__law_heard
  have hb : Binds X.K fd ["_law_ask"] [] := F.bindsN fun _ _ _ _ _ _ us hl => match us, hl with | [_], _ => rfl
  have hkp := F.kp
  obtain ⟨oc, od, dV, kV, doc, pm, an, cdv, ct, osl, rfl, lk, hcd, _, _⟩ := F.ex
  exact pe_lamcall4 hg T.g__law_heard hkp lk hcd hb sc__law_heard rfl (.inl rfl) (heard_gives T) TB hcode hmT hu hr L D hps hbind hbody

/-! ### what stays -/
/-- all of H but the list at b and the tables of code objects stays -/
def ExL (b : Addr) (H H' : Hp) : Prop := ∀ a o, a ≠ b → H a = some o → (∀ ps, o ≠ .tbl ps) → H' a = some o
theorem ExL.trans {b : Addr} {H H1 H2 : Hp} (x : ExL b H H1) (y : ExL b H1 H2) : ExL b H H2 := fun a o n h nt => y a o n (x a o n h nt) nt
theorem ExL.ofB {b : Addr} {H H' : Hp} (e : ExB b H H') : ExL b H H' := fun a o n h _ => e a o n h
theorem ExL.of {b : Addr} {H H' : Hp} (e : Ex H H') : ExL b H H' := fun a o _ h _ => e a o h
theorem ExL.ofN {b : Addr} {H H' : Hp} (e : ExtN H H') : ExL b H H' := fun a o _ h nt => e a o h nt
theorem ExL.st {b a : Addr} {H H' : Hp} {xs : List V} (e : ExL b H H') (hb : ∃ ys, H b = some (.lst ys)) (h : SqT K H a xs) : SqT K H' a xs := by
  obtain ⟨ys, hb⟩ := hb
  rcases h with (h | ⟨o, h⟩) | h
  · exact .inl (.inl (e a _ (fun z => by rw [z, hb] at h; cases h) h (fun _ z => by cases z)))
  · exact .inl (.inr ⟨o, e a _ (fun z => by rw [z, hb] at h; cases h) h (fun _ z => by cases z)⟩)
  · exact .inr h
theorem MouseAt.exL {b m : Addr} {H H' : Hp} {st : Int} {lines : List Ln} (h : MouseAt K H m st lines) (e : ExL b H H') (hb : ∃ ys, H b = some (.lst ys)) : MouseAt K H' m st lines := by
  obtain ⟨dx, L, h1, refs, h2, h3⟩ := h
  refine ⟨dx, L, e m _ (fun z => ?_) h1 (fun _ z => by cases z), refs, e.st hb h2, Fs.Paired.mono (fun _ _ z => e.st hb z) h3⟩
  obtain ⟨ys, hb⟩ := hb
  rw [z, hb] at h1
  cases h1
theorem BSt.exN {b : Addr} {H H' : Hp} {T : Int} (h : BSt K H b T) (e : ExtN H H') : BSt K H' b T := let ⟨c, ns, t, left, h1, h2, h3⟩ := h; ⟨c, ns, t, left, e _ _ h1 (fun _ z => by cases z), e _ _ h2 (fun _ z => by cases z), h3⟩
theorem tabS_b {b P : Addr} {q : Str} {H H' : Hp} (h : TabS H P q) (e : ExB b H H') (hb : ∃ ys, H b = some (.lst ys)) : TabS H' P q := by
  obtain ⟨ps, h1, h2, h3⟩ := h
  obtain ⟨ys, hb⟩ := hb
  refine ⟨ps, e P _ (fun z => by rw [z, hb] at h1; cases h1) h1, h2, fun pos cv hc => ?_⟩
  obtain ⟨c, e1, e2⟩ := h3 pos cv hc
  exact ⟨c, e1, e c _ (fun z => by rw [z, hb] at e2; cases e2) e2⟩
theorem tabs_b {b : Addr} {Tb : List (Addr × Str)} {H H' : Hp} (h : Tabs Tb H) (e : ExB b H H') (hb : ∃ ys, H b = some (.lst ys)) : Tabs Tb H' := fun p hp => tabS_b (h p hp) e hb
theorem tabs_ex {Tb : List (Addr × Str)} {H H' : Hp} (h : Tabs Tb H) (e : Ex H H') : Tabs Tb H' := fun p hp => by
  obtain ⟨ps, h1, h2, h3⟩ := h p hp
  refine ⟨ps, e _ _ h1, h2, fun pos cv hc => ?_⟩
  obtain ⟨c, e1, e2⟩ := h3 pos cv hc
  exact ⟨c, e1, e _ _ e2⟩

/-! ### what heard answers -/
/-- an exception of the class n goes up: the pair -/
theorem th_part {H1 : Hp} {Q : VK} {E' : XK} {n p : Str} (hE : ∀ n dd fs H', n ∈ excs → H' dd = some (.xd fs) → Ends1 K n fs H' Q → E' (.ref (He.ga K n)) (some dd) H') (hn : n ∈ (["BadMouse", "BadNumber", "Misfit"] : List Str))
    (q : ∀ r H2, Ex H1 H2 → H2 r = some (.tup [.str (wordOf n), .str p]) → Q (.ref r) H2) : Raised H1 E' (He.ga K n) [("part", .str p)] := by
  have hn' : n ∈ excs := by
    have : ∀ n ∈ (["BadMouse", "BadNumber", "Misfit"] : List Str), n ∈ excs := by decide
    exact this n hn
  exact fun d H' e hd => hE n d _ H' hn' hd (.inr ⟨hn, .str p, rfl, fun r H2 e2 hr => q r H2 (e.trans e2) hr⟩)
theorem th_many {H1 : Hp} {Q : VK} {E' : XK} (hE : ∀ n dd fs H', n ∈ excs → H' dd = some (.xd fs) → Ends1 K n fs H' Q → E' (.ref (He.ga K n)) (some dd) H')
    (q : ∀ r H2, Ex H1 H2 → H2 r = some (.tup [.str "lines", .int 6000]) → Q (.ref r) H2) : Raised H1 E' (He.ga K "TooMany") [("most", .int 6000), ("what", .str "lines")] :=
  fun d H' e hd => hE "TooMany" d _ H' (by decide) hd (.inl ⟨rfl, .str "lines", .int 6000, rfl, rfl, fun r H2 e2 hr => q r H2 (e.trans e2) hr⟩)
end K72

set_option Elab.async false
set_option linter.all false
set_option maxRecDepth 100000
set_option maxHeartbeats 4000000
namespace K72
open PySem PySem.Spec PyProof.Rows L2 Fs

def itS (lines : List Ln) (s : Sd) : Nat → Sd
  | 0 => s
  | k + 1 => stepS lines (itS lines s k)
def orb (lines : List Ln) (s : Sd) (n : Nat) : List Sd := (List.range n).map (itS lines s)
theorem orb_len {lines : List Ln} {s : Sd} {n : Nat} : (orb lines s n).length = n := by simp [orb]
theorem bfs_orb {lines : List Ln} {s : Sd} {n M : Nat} (hn : 1 ≤ n) (hp : itS lines s n = s) (hd : ∀ i j, i < j → j < n → itS lines s i ≠ itS lines s j) : ∀ (k at' : Nat), at' + 1 ≤ n → k + at' = M + 1 → at' + 1 ≤ M →
    bfsS lines M k (orb lines s (at' + 1)) at' = if n ≤ M then some (orb lines s n) else none
  | 0, at', h1, h2, h3 => by omega
  | k + 1, at', h1, h2, h3 => by
    have hat : (orb lines s (at' + 1))[at']? = some (itS lines s at') := by
      unfold orb
      rw [List.getElem?_map, List.getElem?_range (by omega)]
      rfl
    show (match (orb lines s (at' + 1))[at']? with | none => some (orb lines s (at' + 1)) | some s1 => if M < (addS (orb lines s (at' + 1)) (stepS lines s1)).length then none else bfsS lines M k (addS (orb lines s (at' + 1)) (stepS lines s1)) (at' + 1)) = _
    rw [hat]
    show (if M < (addS (orb lines s (at' + 1)) (itS lines s (at' + 1))).length then none else bfsS lines M k (addS (orb lines s (at' + 1)) (itS lines s (at' + 1))) (at' + 1)) = _
    by_cases he : at' + 1 = n
    · have hin : itS lines s (at' + 1) ∈ orb lines s (at' + 1) := by
        rw [he, hp]
        exact List.mem_map.mpr ⟨0, List.mem_range.mpr (by omega), rfl⟩
      have ha : addS (orb lines s (at' + 1)) (itS lines s (at' + 1)) = orb lines s (at' + 1) := if_pos hin
      rw [ha, orb_len, if_neg (by omega), if_pos (by omega), ← he]
      have hnone : (orb lines s (at' + 1))[at' + 1]? = none := List.getElem?_eq_none (by rw [orb_len]; omega)
      cases k with
      | zero => rfl
      | succ k =>
        show (match (orb lines s (at' + 1))[at' + 1]? with | none => some (orb lines s (at' + 1)) | some s1 => _) = _
        rw [hnone]
    · have hnin : itS lines s (at' + 1) ∉ orb lines s (at' + 1) := fun h => by
        obtain ⟨i, hi, e⟩ := List.mem_map.mp h
        have hi := List.mem_range.mp hi
        exact hd i (at' + 1) hi (by omega) e
      have ha : addS (orb lines s (at' + 1)) (itS lines s (at' + 1)) = orb lines s (at' + 2) := by
        have e1 : addS (orb lines s (at' + 1)) (itS lines s (at' + 1)) = orb lines s (at' + 1) ++ [itS lines s (at' + 1)] := if_neg hnin
        rw [e1]
        unfold orb
        rw [show at' + 2 = (at' + 1) + 1 from rfl, List.range_succ (n := at' + 1), List.map_append]
        rfl
      rw [ha, orb_len]
      by_cases hm : M < at' + 2
      · rw [if_pos hm, if_neg (by omega)]
      · rw [if_neg hm]
        exact bfs_orb hn hp hd k (at' + 1) (by omega) (by omega) (by omega)
theorem stand_orb {lines : List Ln} {st side : Int} {n M : Nat} (hn : 1 ≤ n) (hM : 1 ≤ M) (hp : itS lines (firstS st side) n = firstS st side) (hd : ∀ i j, i < j → j < n → itS lines (firstS st side) i ≠ itS lines (firstS st side) j) :
    standS lines st side M = if n ≤ M then some (orb lines (firstS st side) n) else none := by
  unfold standS
  exact bfs_orb hn hp hd (M + 1) 0 hn (by omega) hM

/-! ### rings -/
theorem getD_at {l : List Ln} {i : Nat} {x d : Ln} (h : l[i]? = some x) : l.getD i d = x := by rw [List.getD_eq_getElem?_getD, h]; rfl
theorem it_turn {N : Nat} {c side : Int} {ss : List (Option Int)} (hN : 1 ≤ N) (h0 : 0 ≤ side) (h3 : side ≤ 3) : ∀ i : Nat, itS (ringS "turn" N c) (0, side, ss) i = (((i % N : Nat) : Int), (side + (i : Int)) % 4, ss)
  | 0 => by
    show (0, side, ss) = _
    have : (0 % N : Nat) = 0 := Nat.zero_mod N
    rw [this, show (side + ((0 : Nat) : Int)) % 4 = side from by omega]
    rfl
  | i + 1 => by
    show stepS _ (itS (ringS "turn" N c) (0, side, ss) i) = _
    rw [it_turn hN h0 h3 i]
    unfold stepS
    have hl : i % N < N := Nat.mod_lt _ (by omega)
    rw [show (((i % N : Nat) : Int)).toNat = i % N from rfl, getD_at (ringS_at hl)]
    have h1 : ((((i % N : Nat) : Int) + 1) % (N : Int)) = (((i + 1) % N : Nat) : Int) := by
      rw [Int.natCast_emod, Int.natCast_emod, Int.emod_add_emod]
      rfl
    show ((((i % N : Nat) : Int) + 1) % (N : Int), ((side + (i : Int)) % 4 + 1) % 4, ss) = _
    rw [h1, show ((side + (i : Int)) % 4 + 1) % 4 = (side + ((i + 1 : Nat) : Int)) % 4 from by omega]
theorem it_say {N : Nat} {c side : Int} {ss : List (Option Int)} (hN : 1 ≤ N) : ∀ i : Nat, itS (ringS "say" N c) (0, side, ss) i = (((i % N : Nat) : Int), side, ss)
  | 0 => by
    show (0, side, ss) = _
    have : (0 % N : Nat) = 0 := Nat.zero_mod N
    rw [this]
    rfl
  | i + 1 => by
    show stepS _ (itS (ringS "say" N c) (0, side, ss) i) = _
    rw [it_say hN i]
    unfold stepS
    have hl : i % N < N := Nat.mod_lt _ (by omega)
    rw [show (((i % N : Nat) : Int)).toNat = i % N from rfl, getD_at (ringS_at hl)]
    have h1 : ((((i % N : Nat) : Int) + 1) % (N : Int)) = (((i + 1) % N : Nat) : Int) := by
      rw [Int.natCast_emod, Int.natCast_emod, Int.emod_add_emod]
      rfl
    show ((((i % N : Nat) : Int) + 1) % (N : Int), side, ss) = _
    rw [h1]
theorem ring_ok {word : Str} {N : Nat} {c : Int} (hw : word = "turn" ∨ word = "say") (hN : 1 ≤ N) (h6 : N ≤ 6000) (c0 : 0 ≤ c) (c9 : c < 9) : LinesOk (ringS word N c) := by
  refine ⟨by rw [ringS_len]; exact hN, fun l hl => ?_⟩
  obtain ⟨i, hi, rfl⟩ := List.mem_map.mp hl
  rw [ringS_len]
  have m0 := Int.emod_nonneg ((i : Int) + 1) (b := (N : Int)) (by omega)
  have m1 := Int.emod_lt_of_pos ((i : Int) + 1) (b := (N : Int)) (by omega)
  split
  · exact ⟨.inl ⟨_, rfl⟩, m0, m1, m0, by show ((i : Int) + 1) % (N : Int) ≤ 1000000000; omega⟩
  · exact ⟨.inr ⟨_, _, rfl⟩, m0, m1, c0, by show c ≤ 1000000000; omega⟩
def tblL : List (Str × Nat × Bool) := [("say", 5999, true), ("say", 6000, false), ("turn", 1499, true), ("turn", 1501, false), ("turn", 2998, true), ("turn", 3002, false)]
def dueL (word : Str) (N : Nat) : Nat := if word = "say" then N else if N % 2 = 1 then 4 * N else 2 * N
theorem stand_say {N : Nat} {c side st : Int} {M : Nat} (hN : 1 ≤ N) (hM : 1 ≤ M) : standS (ringS "say" N c) st side M = if N ≤ M then some (orb (ringS "say" N c) (firstS st side) N) else none := by
  refine stand_orb hN hM ?_ fun i j h1 h2 => ?_
  · unfold firstS
    rw [it_say hN, Nat.mod_self]
    rfl
  · unfold firstS
    rw [it_say hN, it_say hN, Nat.mod_eq_of_lt (by omega), Nat.mod_eq_of_lt h2]
    intro e
    have := congrArg (fun z : Sd => z.1) e
    simp at this
    omega
theorem stand_turn {N n : Nat} {c side st : Int} {M : Nat} (hN : 1 ≤ N) (hM : 1 ≤ M) (h0 : 0 ≤ side) (h3 : side ≤ 3) (hn : 1 ≤ n) (e1 : n % N = 0) (e2 : n % 4 = 0) (hd : ∀ i j : Nat, i < j → j < n → i % N = j % N → i % 4 = j % 4 → False) :
    standS (ringS "turn" N c) st side M = if n ≤ M then some (orb (ringS "turn" N c) (firstS st side) n) else none := by
  refine stand_orb hn hM ?_ fun i j h1 h2 => ?_
  · unfold firstS
    rw [it_turn hN h0 h3, e1, show (side + (n : Int)) % 4 = side from by omega]
    rfl
  · unfold firstS
    rw [it_turn hN h0 h3, it_turn hN h0 h3]
    intro e
    have h4 := congrArg (fun z : Sd => z.1) e
    have h5 := congrArg (fun z : Sd => z.2.1) e
    simp only at h4 h5
    exact hd i j h1 h2 (by omega) (by omega)
theorem ring_stand {word : Str} {N : Nat} {b : Bool} (h : (word, N, b) ∈ tblL) {c side st : Int} {M : Nat} (hM : 1 ≤ M) (h0 : 0 ≤ side) (h3 : side ≤ 3) : ∃ row : List Sd, row.length = dueL word N ∧ standS (ringS word N c) st side M = if dueL word N ≤ M then some row else none := by
  have h' : (word, N, b) = (("say" : Str), 5999, true) ∨ (word, N, b) = (("say" : Str), 6000, false) ∨ (word, N, b) = (("turn" : Str), 1499, true) ∨ (word, N, b) = (("turn" : Str), 1501, false) ∨ (word, N, b) = (("turn" : Str), 2998, true) ∨ (word, N, b) = (("turn" : Str), 3002, false) := by simpa [tblL] using h
  rcases h' with e | e | e | e | e | e <;> cases e
  · exact ⟨_, orb_len, stand_say (by decide) hM⟩
  · exact ⟨_, orb_len, stand_say (by decide) hM⟩
  · exact ⟨_, orb_len, stand_turn (n := 5996) (by decide) hM h0 h3 (by decide) (by decide) (by decide) (fun i j _ _ _ _ => by omega)⟩
  · exact ⟨_, orb_len, stand_turn (n := 6004) (by decide) hM h0 h3 (by decide) (by decide) (by decide) (fun i j _ _ _ _ => by omega)⟩
  · exact ⟨_, orb_len, stand_turn (n := 5996) (by decide) hM h0 h3 (by decide) (by decide) (by decide) (fun i j _ _ _ _ => by omega)⟩
  · exact ⟨_, orb_len, stand_turn (n := 6004) (by decide) hM h0 h3 (by decide) (by decide) (by decide) (fun i j _ _ _ _ => by omega)⟩
/-! ### the law's two lines -/
def twoL (n : Int) : List Ln := [("turn", [1]), ("say", [n, 0])]
theorem it_two {n side : Int} {ss : List (Option Int)} (h0 : 0 ≤ side) (h3 : side ≤ 3) : ∀ i : Nat, itS (twoL n) (0, side, ss) i = (((i % 2 : Nat) : Int), (side + (((i + 1) / 2 : Nat) : Int)) % 4, ss)
  | 0 => by
    show (0, side, ss) = _
    rw [show (side + (((0 + 1) / 2 : Nat) : Int)) % 4 = side from by omega]
    rfl
  | i + 1 => by
    show stepS _ (itS (twoL n) (0, side, ss) i) = _
    rw [it_two h0 h3 i]
    rcases Nat.mod_two_eq_zero_or_one i with h | h
    · rw [h]
      show ((1 : Int), ((side + (((i + 1) / 2 : Nat) : Int)) % 4 + 1) % 4, ss) = _
      rw [show (i + 1) % 2 = 1 from by omega, show ((side + (((i + 1) / 2 : Nat) : Int)) % 4 + 1) % 4 = (side + (((i + 1 + 1) / 2 : Nat) : Int)) % 4 from by omega]
      rfl
    · rw [h]
      show ((0 : Int), (side + (((i + 1) / 2 : Nat) : Int)) % 4, ss) = _
      rw [show (i + 1) % 2 = 0 from by omega, show (i + 1) / 2 = (i + 1 + 1) / 2 from by omega]
      rfl
theorem two_stand {n side st : Int} (h0 : 0 ≤ side) (h3 : side ≤ 3) : ∃ row : List Sd, standS (twoL n) st side 5999 = some row := by
  refine ⟨_, (stand_orb (n := 8) (by decide) (by decide) ?_ fun i j h1 h2 => ?_).trans (if_pos (by decide))⟩
  · unfold firstS
    rw [it_two h0 h3, show (side + (((8 + 1) / 2 : Nat) : Int)) % 4 = side from by omega]
    rfl
  · unfold firstS
    rw [it_two h0 h3, it_two h0 h3]
    intro e
    have h4 := congrArg (fun z : Sd => z.1) e
    have h5 := congrArg (fun z : Sd => z.2.1) e
    simp only at h4 h5
    omega
theorem two_ok {n : Int} (h0 : 0 ≤ n) (h1 : n ≤ 1000000000) : LinesOk (twoL n) := by
  refine ⟨by show 1 ≤ 2; decide, fun l hl => ?_⟩
  have hl' : l = (("turn", [1]) : Ln) ∨ l = (("say", [n, 0]) : Ln) := by simpa [twoL] using hl
  rcases hl' with e | e <;> subst e
  · exact ⟨.inl ⟨_, rfl⟩, by decide, by show (1 : Int) < 2; decide, by decide, by decide⟩
  · exact ⟨.inr ⟨_, _, rfl⟩, by show (0 : Int) ≤ 0; decide, by show (0 : Int) < 2; decide, h0, h1⟩
end K72

set_option Elab.async false
set_option linter.all false
set_option maxRecDepth 100000
set_option maxHeartbeats 4000000
namespace K72
open PySem PySem.Spec PyProof.Rows L2 Fs LamX
variable {w : World} {K : PySem.W.Frag} {mg : Str → Option Value} {base : Heap}

abbrev cL (K : PySem.W.Frag) : Addr × Addr := He.cT K ("law", none)
abbrev cB (K : PySem.W.Frag) : Addr × Addr := He.cT K ("_law_bounds_right", none)
/-- the tables of the two defs that make lambdas, and the name of what they make -/
def TbL (K : PySem.W.Frag) : List (Addr × Str) := [((cL K).2, (("law" : Str) ++ ".<locals>.") ++ "<lambda>"), ((cB K).2, (("_law_bounds_right" : Str) ++ ".<locals>.") ++ "<lambda>")]
theorem tbl_ne (T : Tx w K mg) : (cL K).2 ≠ (cB K).2 := of_decide_eq_true T.ex10
abbrev bCx (w : World) (K : PySem.W.Frag) (mg : Str → Option Value) (base : Heap) (A : Around) (outer : List Env) (s : Shared) (H : Hp) (E : XK) : Cx := (cxOf CX0 Pr w K mg base N__law_bounds_right d__law_bounds_right.qual (defScope s__law_bounds_right) (He.fAd K d__law_bounds_right.at_) (.ref (cB K).1) A outer s H E).nox
theorem hu_br (T : Tx w K mg) : ∀ p ∈ TbL K, p.1 = (cB K).2 → p.2 = (("_law_bounds_right" : Str) ++ ".<locals>.") ++ "<lambda>" := fun p hp e => by
  rcases List.mem_cons.mp hp with h | h
  · subst h
    exact absurd e (tbl_ne T)
  · rcases List.mem_cons.mp h with h | h
    · subst h; rfl
    · cases h
theorem br_rest (T : Tx w K mg) (TB : TabB base mg (cB K).1 (cB K).2) {A : Around} {outer : List Env} {s : Shared} {H : Hp} {E : XK} {Q : VK} (hr : Room 8 (A.deeper (envOfC d__law_bounds_right.qual d__law_bounds_right.scope s.heap.objs.size (He.fAd K d__law_bounds_right.at_) (.ref (cB K).1)))) :
    ∃ t, PSs (bCx w K mg base A outer s H E) ((defBody s__law_bounds_right).drop 3) t ∧ ∀ (b m : Addr) (word : Str) (N : Nat) (lt : Bool) (st side c : Int) (H1 : Hp), (word, N, lt) ∈ tblL → 0 ≤ st → st ≤ 3 → 0 ≤ side → side ≤ 3 → 0 ≤ c → c < 9 → MouseAt K H1 m st (ringS word N c) → Tabs (TbL K) H1 → (∀ H', Q (.bl true) H') →
      t { nx := fun _ H' => Q .non H', rt := Q } [some (.ref b), some (.str word), some (.int (N : Nat)), some (.bl lt), some (.ref m), some (.int side), some (.int ((dueL word N : Nat) : Int)), none] H1 := by
  obtain ⟨fdO, FO, GO⟩ := ok_standOf (base := base) T
  obtain ⟨fdR, FR, GR⟩ := ok_reck (base := base) T
  have bO : Binds K fdO ["mouse", "side"] [] := FO.bindsN fun _ _ _ _ _ _ us hl => match us, hl with | [_, _], _ => rfl
  have bR : Binds K fdR ["mouse", "side"] [] := FR.bindsN fun _ _ _ _ _ _ us hl => match us, hl with | [_, _], _ => rfl
  have nd := sc__law_bounds_right.nd
  have hu : (A.deeper (envOfC d__law_bounds_right.qual d__law_bounds_right.scope s.heap.objs.size (He.fAd K d__law_bounds_right.at_) (.ref (cB K).1))).units + 64 < cLine := hr.units
  refine ⟨_, pss_cons (ps_if (pt_cmpR op_ne (pe_call GO (hr.mono (by decide)) rfl T.g_standings_of FO.kp bO .nil pass0 (pa_cons (pv 4) (pa_cons (pv 5) pa_nil))) (pv 6) (nomark _)) (pss_one (ps_ret pe_bl)) pss_nil)
    (pss_cons (ps_if (pt_not (pt_val (pv 3))) (pss_one (ps_ret (pe_cmpR (op_eqD hu) (by exact (pe_heard T (Tb := TbL K) (is := []) (ps := []) (k := 6) (t := fun E => tCall (spReck K) [] E (tCons (tVar 4) (tCons (tVar 5) tNil))) rfl TB rfl (List.mem_cons_of_mem _ (List.mem_cons_self ..)) (hu_br T) hr (lamD_by (N := N__law_bounds_right) (sc := defScope s__law_bounds_right) (by decide +kernel)) (.none fun _ => rfl) rfl ⟨fun _ _ _ _ _ _ => rfl, fun _ z => by cases z⟩
            (fun A outer s H E f c' hr2 => pe_call GR hr2 rfl T.g_reckoner_of FR.kp bR .nil (passes_call lam_takes (fun _ _ _ _ h => h)) (pa_cons (pv 4) (pa_cons (pv 5) pa_nil)))))
          (pe_tup (pa_cons pe_str (pa_cons pe_int pa_nil))) (by rfl)))) pss_nil)
    (pss_cons (ps_set (i := 7) nd rfl (Or.inl rfl) (pe_call (E := fun _ _ _ => False) GR (hr.mono (by decide)) rfl T.g_reckoner_of FR.kp bR .nil passF (pa_cons (pv 4) (pa_cons (pv 5) pa_nil))))
    (pss_one (ps_ret (pe_and (pe_callB call_isi rfl T.n_isinstance (by decide +kernel) (pa_cons (pv 7) (pa_cons (pe_gref rfl T.g_Reckoner) pa_nil)))
      (pe_and (pe_cmpR op_eq (pe_fld (pv 7) rfl) (pe_op op_add (pe_fld (pv 4) rfl) pe_int) (nomark _)) (pe_one (pe_cmpR op_le (pe_callB (r := rLenQ K) call_lenQ rfl T.n_len (by decide +kernel) (pa_cons (pe_fld (pv 7) rfl) pa_nil)) pe_int (nomark _))))))))), ?_⟩
  intro b m word N lt st side c H1 ht st0 st3 s0 s3 c0 c9 hm htb q
  have hmem : (word = "turn" ∨ word = "say") ∧ 1 ≤ N ∧ N ≤ 6000 ∧ dueL word N ≤ 20000 ∧ (lt = true ↔ dueL word N ≤ 5999) := by
    have h' : (word, N, lt) = (("say" : Str), 5999, true) ∨ (word, N, lt) = (("say" : Str), 6000, false) ∨ (word, N, lt) = (("turn" : Str), 1499, true) ∨ (word, N, lt) = (("turn" : Str), 1501, false) ∨ (word, N, lt) = (("turn" : Str), 2998, true) ∨ (word, N, lt) = (("turn" : Str), 3002, false) := by simpa [tblL] using ht
    rcases h' with e | e | e | e | e | e <;> cases e
    · exact ⟨.inr rfl, by decide, by decide, by decide +kernel, by decide +kernel⟩
    · exact ⟨.inr rfl, by decide, by decide, by decide +kernel, by decide +kernel⟩
    · exact ⟨.inl rfl, by decide, by decide, by decide +kernel, by decide +kernel⟩
    · exact ⟨.inl rfl, by decide, by decide, by decide +kernel, by decide +kernel⟩
    · exact ⟨.inl rfl, by decide, by decide, by decide +kernel, by decide +kernel⟩
    · exact ⟨.inl rfl, by decide, by decide, by decide +kernel, by decide +kernel⟩
  obtain ⟨hw, n1, n6, d2, dl⟩ := hmem
  have hok := ring_ok hw n1 n6 c0 c9
  obtain ⟨row, rl, rs⟩ := ring_stand ht (c := c) (side := side) (st := st) (M := 20000) (by decide) s0 s3
  rw [if_pos d2] at rs
  obtain ⟨row2, rl2, rs2⟩ := ring_stand ht (c := c) (side := side) (st := st) (M := 5999) (by decide) s0 s3
  refine ⟨_, rfl, _, rfl, m, st, side, _, row, rfl, hm, hok, st0, by omega, s0, s3, rs, fun H2 e2 => ⟨_, rfl, rfl, _, rfl, iteB (fun z => ?_) fun _ => ?_⟩⟩
  · rw [rl] at z
    simp at z
  have hm2 := hm.ex e2
  have htb2 := tabs_ex htb e2
  refine ⟨_, rfl, lt, rfl, iteB (fun z => ?_) fun z => ?_⟩
  · have ef : lt = false := by simpa using z
    subst ef
    have nl : ¬ dueL word N ≤ 5999 := fun h => by have := dl.2 h; cases this
    rw [if_neg nl] at rs2
    refine ⟨htb2, fun H3 eN _ E' Q' hnon hexc => ?_⟩
    have hm3 : MouseAt K H3 m st (ringS word N c) := by
      obtain ⟨dx, L, h1, refs, h2, h3⟩ := hm2
      have est : ∀ {a : Addr} {xs : List V}, SqT K H2 a xs → SqT K H3 a xs := fun h => by
        rcases h with (h | ⟨o, h⟩) | h
        · exact .inl (.inl (eN _ _ h (fun _ z => by cases z)))
        · exact .inl (.inr ⟨o, eN _ _ h (fun _ z => by cases z)⟩)
        · exact .inr h
      exact ⟨dx, L, eN _ _ h1 (fun _ z => by cases z), refs, est h2, Fs.Paired.mono (fun _ _ z => est z) h3⟩
    refine ⟨_, rfl, _, rfl, .ref m, .int side, rfl, .inr ⟨m, st, _, rfl, hm3, .inl ⟨side, rfl⟩, .inr ⟨side, rfl, s0, s3, .inr ⟨st0, by omega, hok, fun _ => th_many hexc fun r H4 e4 hr4 => ?_, fun row' h' => by rw [rs2] at h'; cases h'⟩⟩⟩⟩
    refine ⟨by show 2 ≤ sizeLine; decide, fun p hp => ?_⟩
    have hr5 : upd H4 p (.tup [.str "lines", .int 6000]) r = some (.tup [.str "lines", .int 6000]) := (Ex.new hp) _ _ hr4
    exact ⟨.tuple [.str "lines", .int 6000], .tuple [.str "lines", .int 6000], .tup (.of hr5) (.cons (.str _) (.cons (.int _) .nil)), .tup (.of upd_same) (.cons (.str _) (.cons (.int _) .nil)), by decide +kernel, by decide +kernel, q _⟩
  · have et : lt = true := by simpa using z
    subst et
    have nl : dueL word N ≤ 5999 := dl.1 rfl
    rw [if_pos nl] at rs2
    refine ⟨_, rfl, _, rfl, .ref m, .int side, rfl, .inr ⟨m, st, _, rfl, hm2, .inl ⟨side, rfl⟩, .inr ⟨side, rfl, s0, s3, .inr ⟨st0, by omega, hok, fun h' => (by rw [rs2] at h'; cases h'), fun row' h' H4 r rl' e4 hr4 hlen _ => ?_⟩⟩⟩⟩
    rw [rs2] at h'
    cases h'
    obtain ⟨dx, L, h1, refs, h2, h3⟩ := hr4
    obtain ⟨mdx, mL, mh, _⟩ := hm2.ex e4
    have k : PySem.W.kitOne K (.ref (He.ga K "Reckoner")) (.ref (He.ga K "Reckoner")) = some true := kitB1_ok T.ex3
    refine ⟨_, rfl, .ref r, _, .ref (He.ga K "Reckoner"), .ref (He.ga K "Reckoner"), true, rfl, .own _, tyx_ins h1 T.c_Reckoner (oc_ok T.ex4), k, true, rfl, iteT ?_⟩
    refine ⟨_, rfl, r, _, dx, _, .int (st + 1), rfl, h1, T.c_Reckoner, T.a_Reckoner_boxes, rfl, _, rfl, m, _, mdx, _, .int st, rfl, mh, T.c_Mouse, T.a_Mouse_stones, rfl, st, 1, rfl, rfl, rfl, decide (V.int (st + 1) = V.int (st + 1)), rfl, ?_⟩
    rw [decide_eq_true rfl]
    refine iteT ?_
    refine ⟨_, rfl, r, _, dx, _, .ref L, rfl, h1, T.c_Reckoner, T.a_Reckoner_lines, rfl, L, _, rfl, .inr h2, _, 6000, rfl, rfl, ?_⟩
    have hle : decide ((((refs.map V.ref).length : Nat) : Int) ≤ 6000) = true := decide_eq_true (by
      have h5 := Paired.length h3
      rw [List.length_map]
      omega)
    show Q (.bl (decide ((((refs.map V.ref).length : Nat) : Int) ≤ 6000))) H4
    rw [hle]
    exact q _
def spBr (K : PySem.W.Frag) : Sp := fun vs H Q _ => ∃ b T, vs = [.ref b] ∧ BSt K H b T ∧ T ≤ 800000 ∧ Tabs (TbL K) H ∧ ∀ H', Q (.bl true) H'
theorem ok_br (T : Tx w K mg) (TB : TabB base mg (cB K).1 (cB K).2) : ∃ fd, FnP K d__law_bounds_right fd ∧ FnOk Pr w K mg base CX0 9 (He.fAd K d__law_bounds_right.at_) fd ["_law_beadle_here"] (spBr K) := by
  obtain ⟨fd, F⟩ := T.F__law_bounds_right
  obtain ⟨fdP, FP, GP⟩ := ok_pick (base := base) T
  obtain ⟨fdS, FS, GS⟩ := ok_staff (base := base) T
  obtain ⟨fdG, FG, GG⟩ := ok_ring (base := base) T
  have bP : Binds K fdP ["_law_beadle_here", "_law_some"] [] := FP.bindsN fun _ _ _ _ _ _ us hl => match us, hl with | [_, _], _ => rfl
  have bS : Binds K fdS ["_law_beadle_here", "_law_many"] [] := FS.bindsN fun _ _ _ _ _ _ us hl => match us, hl with | [_, _], _ => rfl
  have bG : Binds K fdG ["_law_beadle_here", "_law_word", "_law_long", "_law_stones"] [] := FG.bindsN fun _ _ _ _ _ _ us hl => match us, hl with | [_, _, _, _], _ => rfl
  refine ⟨fd, F, ?_⟩
  obtain ⟨oc, od, dV, kV, doc, pm, an, cdv, ct, osl, rfl, lk, hcd, _, _⟩ := F.ex
  obtain ⟨cc, rfl⟩ := He.codeIn_ref hcd
  have ecc : cc = (cB K).1 := (He.codeOf_eq lk rfl).symm
  subst ecc
  refine fn_of lk hcd sc__law_bounds_right (fun vs H Q E h => ?_) fun A outer s H vs Q E hr h => ?_
  · obtain ⟨b, Tm, rfl, _⟩ := h; rfl
  have nd := sc__law_bounds_right.nd
  obtain ⟨tr, htr, hsem⟩ := br_rest (base := base) T TB (A := A) (outer := outer) (s := s) (H := H) (E := E) (Q := Q) hr
  refine ⟨_, PSs.nox (pss_cons (ps_asg (pe_call GP (hr.mono (by decide)) rfl T.g__law_pick FP.kp bP .nil pass0 (pa_cons (pv 0) (pa_cons (pe_lst
      (pa_cons (pe_tup (pa_cons pe_str (pa_cons pe_int (pa_cons pe_bl pa_nil)))) (pa_cons (pe_tup (pa_cons pe_str (pa_cons pe_int (pa_cons pe_bl pa_nil)))) (pa_cons (pe_tup (pa_cons pe_str (pa_cons pe_int (pa_cons pe_bl pa_nil)))) (pa_cons (pe_tup (pa_cons pe_str (pa_cons pe_int (pa_cons pe_bl pa_nil)))) (pa_cons (pe_tup (pa_cons pe_str (pa_cons pe_int (pa_cons pe_bl pa_nil)))) (pa_cons (pe_tup (pa_cons pe_str (pa_cons pe_int (pa_cons pe_bl pa_nil)))) pa_nil))))))) pa_nil)))
      (pg_tup rfl (pgs_cons (pg_name (i := 1) nd rfl (Or.inl rfl)) (pgs_cons (pg_name (i := 2) nd rfl (Or.inl rfl)) (pgs_cons (pg_name (i := 3) nd rfl (Or.inl rfl)) pgs_nil)))))
    (pss_cons (ps_asg (pe_tup (pa_cons (pe_call GG (hr.mono (by decide)) rfl T.g__law_ring FG.kp bG .nil pass0 (pa_cons (pv 0) (pa_cons (pv 1) (pa_cons (pv 2) (pa_cons (pe_call GP (hr.mono (by decide)) rfl T.g__law_pick FP.kp bP .nil pass0 (pa_cons (pv 0) (pa_cons (pe_lst (pa_cons pe_int (pa_cons pe_int pa_nil))) pa_nil))) pa_nil)))))
        (pa_cons (pe_call GS (hr.mono (by decide)) rfl T.g__law_staff FS.kp bS .nil pass0 (pa_cons (pv 0) (pa_cons pe_int pa_nil))) pa_nil)))
      (pg_tup rfl (pgs_cons (pg_name (i := 4) nd rfl (Or.inr rfl)) (pgs_cons (pg_name (i := 5) nd rfl (Or.inr rfl)) pgs_nil))))
    (pss_cons (ps_set (i := 6) nd rfl (Or.inl rfl) (pe_ifExp (pt_cmpR op_eq (pv 1) pe_str (nomark _)) (pv 2) (pe_ifExp (pt_cmpR op_eq (pe_op op_mod (pe_callTy (T := "int") call_int1 rfl T.n_int (by decide +kernel) (pa_cons (pv 2) pa_nil)) pe_int) pe_int (nomark _)) (pe_op op_mul pe_int (pv 2)) (pe_op op_mul pe_int (pv 2))))) htr))), ?_⟩
  obtain ⟨b, Tm, rfl, hb, hT, htb, q⟩ := h
  obtain ⟨bys, hbl⟩ := hb.some
  refine ⟨_, rfl, by show 3 ≤ sizeLine; decide, fun p1 h1 => ?_⟩
  have e1 : Ex H (upd H p1 (.tup [.str "say", .int 5999, .bl true])) := Ex.new h1
  have s1 : upd H p1 (.tup [.str "say", .int 5999, .bl true]) p1 = some (.tup [.str "say", .int 5999, .bl true]) := upd_same
  generalize upd H p1 (.tup [.str "say", .int 5999, .bl true]) = H1 at e1 s1
  refine ⟨by show 3 ≤ sizeLine; decide, fun p2 h2 => ?_⟩
  have e2 : Ex H1 (upd H1 p2 (.tup [.str "say", .int 6000, .bl false])) := Ex.new h2
  have s2 : upd H1 p2 (.tup [.str "say", .int 6000, .bl false]) p2 = some (.tup [.str "say", .int 6000, .bl false]) := upd_same
  generalize upd H1 p2 (.tup [.str "say", .int 6000, .bl false]) = H2 at e2 s2
  refine ⟨by show 3 ≤ sizeLine; decide, fun p3 h3 => ?_⟩
  have e3 : Ex H2 (upd H2 p3 (.tup [.str "turn", .int 1499, .bl true])) := Ex.new h3
  have s3 : upd H2 p3 (.tup [.str "turn", .int 1499, .bl true]) p3 = some (.tup [.str "turn", .int 1499, .bl true]) := upd_same
  generalize upd H2 p3 (.tup [.str "turn", .int 1499, .bl true]) = H3 at e3 s3
  refine ⟨by show 3 ≤ sizeLine; decide, fun p4 h4 => ?_⟩
  have e4 : Ex H3 (upd H3 p4 (.tup [.str "turn", .int 1501, .bl false])) := Ex.new h4
  have s4 : upd H3 p4 (.tup [.str "turn", .int 1501, .bl false]) p4 = some (.tup [.str "turn", .int 1501, .bl false]) := upd_same
  generalize upd H3 p4 (.tup [.str "turn", .int 1501, .bl false]) = H4 at e4 s4
  refine ⟨by show 3 ≤ sizeLine; decide, fun p5 h5 => ?_⟩
  have e5 : Ex H4 (upd H4 p5 (.tup [.str "turn", .int 2998, .bl true])) := Ex.new h5
  have s5 : upd H4 p5 (.tup [.str "turn", .int 2998, .bl true]) p5 = some (.tup [.str "turn", .int 2998, .bl true]) := upd_same
  generalize upd H4 p5 (.tup [.str "turn", .int 2998, .bl true]) = H5 at e5 s5
  refine ⟨by show 3 ≤ sizeLine; decide, fun p6 h6 => ?_⟩
  have e6 : Ex H5 (upd H5 p6 (.tup [.str "turn", .int 3002, .bl false])) := Ex.new h6
  have s6 : upd H5 p6 (.tup [.str "turn", .int 3002, .bl false]) p6 = some (.tup [.str "turn", .int 3002, .bl false]) := upd_same
  generalize upd H5 p6 (.tup [.str "turn", .int 3002, .bl false]) = H6 at e6 s6
  refine ⟨by show 6 ≤ sizeLine; decide, fun l hl => ?_⟩
  have e7 : Ex H6 (upd H6 l (.lst [.ref p1, .ref p2, .ref p3, .ref p4, .ref p5, .ref p6])) := Ex.new hl
  have sl : upd H6 l (.lst [.ref p1, .ref p2, .ref p3, .ref p4, .ref p5, .ref p6]) l = some (.lst [.ref p1, .ref p2, .ref p3, .ref p4, .ref p5, .ref p6]) := upd_same
  have e16 : Ex H H6 := e1.trans (e2.trans (e3.trans (e4.trans (e5.trans e6))))
  have nlb : l ≠ b := Ne.symm (ne_of_none (e16 _ _ hbl) hl)
  have e8 := e16.trans e7
  have s6 := e7 _ _ s6
  have s5 := e7 _ _ (e6 _ _ s5)
  have s4 := e7 _ _ (e6 _ _ (e5 _ _ s4))
  have s3 := e7 _ _ (e6 _ _ (e5 _ _ (e4 _ _ s3)))
  have s2 := e7 _ _ (e6 _ _ (e5 _ _ (e4 _ _ (e3 _ _ s2))))
  have s1 := e7 _ _ (e6 _ _ (e5 _ _ (e4 _ _ (e3 _ _ (e2 _ _ s1)))))
  generalize upd H6 l (.lst [.ref p1, .ref p2, .ref p3, .ref p4, .ref p5, .ref p6]) = H7 at e8 sl s1 s2 s3 s4 s5 s6
  refine ⟨b, l, _, Tm, rfl, .inl (.inl sl), nlb, by show 0 < 6; decide, by show 6 < 1000000; decide, hb.ex e8, by omega, fun i x H8 hx hb8 o8 => ?_⟩
  have hx' : ∃ p word N lt, x = .ref p ∧ H7 p = some (.tup [.str word, .int ((N : Nat) : Int), .bl lt]) ∧ (word, N, lt) ∈ tblL := by
    match i, hx with
    | 0, hx => cases hx; exact ⟨p1, _, 5999, _, rfl, s1, by decide⟩
    | 1, hx => cases hx; exact ⟨p2, _, 6000, _, rfl, s2, by decide⟩
    | 2, hx => cases hx; exact ⟨p3, _, 1499, _, rfl, s3, by decide⟩
    | 3, hx => cases hx; exact ⟨p4, _, 1501, _, rfl, s4, by decide⟩
    | 4, hx => cases hx; exact ⟨p5, _, 2998, _, rfl, s5, by decide⟩
    | 5, hx => cases hx; exact ⟨p6, _, 3002, _, rfl, s6, by decide⟩
    | i + 6, hx => simp at hx
  obtain ⟨p, word, N, lt, rfl, hp, hin⟩ := hx'
  have hp8 : H8 p = some (.tup [.str word, .int ((N : Nat) : Int), .bl lt]) := o8 p _ (fun z => by rw [z, e8 _ _ hbl] at hp; cases hp) hp
  have o08 : ExB b H H8 := (ExB.of e8).trans o8
  refine ⟨p, _, rfl, .of hp8, rfl, _, _, rfl, _, _, rfl, _, _, rfl, rfl, ?_⟩
  -- the mouse, the side
  obtain ⟨bys8, hbl8⟩ := hb8.some
  refine ⟨_, rfl, _, rfl, _, rfl, _, rfl, by show 2 ≤ sizeLine; decide, fun l2 hl2 => ?_⟩
  have f1 : Ex H8 (upd H8 l2 (.lst [.int 0, .int 3])) := Ex.new hl2
  have sl2 : upd H8 l2 (.lst [.int 0, .int 3]) l2 = some (.lst [.int 0, .int 3]) := upd_same
  have nl2 : l2 ≠ b := Ne.symm (ne_of_none hbl8 hl2)
  generalize upd H8 l2 (.lst [.int 0, .int 3]) = H9 at f1 sl2
  refine ⟨b, l2, _, _, rfl, .inl (.inl sl2), nl2, by show 0 < 2; decide, by show 2 < 1000000; decide, hb8.ex f1, by omega, fun i x H10 hx hb10 o10 => ?_⟩
  have hx' : ∃ st : Int, x = .int st ∧ 0 ≤ st ∧ st ≤ 3 := by
    match i, hx with
    | 0, hx => cases hx; exact ⟨0, rfl, by decide, by decide⟩
    | 1, hx => cases hx; exact ⟨3, rfl, by decide, by decide⟩
    | i + 2, hx => simp at hx
  obtain ⟨st, rfl, st0, st3⟩ := hx'
  have o010 : ExB b H H10 := (o08.trans (ExB.of f1)).trans o10
  have hmem : (word = "turn" ∨ word = "say") ∧ 1 ≤ N ∧ N ≤ 6000 := by
    have h' : (word, N, lt) = (("say" : Str), 5999, true) ∨ (word, N, lt) = (("say" : Str), 6000, false) ∨ (word, N, lt) = (("turn" : Str), 1499, true) ∨ (word, N, lt) = (("turn" : Str), 1501, false) ∨ (word, N, lt) = (("turn" : Str), 2998, true) ∨ (word, N, lt) = (("turn" : Str), 3002, false) := by simpa [tblL] using hin
    rcases h' with e | e | e | e | e | e <;> cases e
    · exact ⟨.inr rfl, by decide, by decide⟩
    · exact ⟨.inr rfl, by decide, by decide⟩
    · exact ⟨.inl rfl, by decide, by decide⟩
    · exact ⟨.inl rfl, by decide, by decide⟩
    · exact ⟨.inl rfl, by decide, by decide⟩
    · exact ⟨.inl rfl, by decide, by decide⟩
  obtain ⟨hw, n1, n6⟩ := hmem
  refine ⟨b, _, word, N, st, rfl, hw, n1, n6, st0, by omega, hb10, by omega, fun m H11 c c0 c9 hb11 o11 hm => ?_⟩
  refine ⟨_, rfl, b, 4, _, rfl, by decide, by decide, hb11, by omega, fun side H12 s0 s4 hb12 o12 => ?_⟩
  refine ⟨by show 2 ≤ sizeLine; decide, fun pt hpt => ?_⟩
  have f2 : Ex H12 (upd H12 pt (.tup [.ref m, .int side])) := Ex.new hpt
  have spt : upd H12 pt (.tup [.ref m, .int side]) pt = some (.tup [.ref m, .int side]) := upd_same
  generalize upd H12 pt (.tup [.ref m, .int side]) = H13 at f2 spt
  have o013 : ExB b H H13 := ((o010.trans o11).trans o12).trans (ExB.of f2)
  have hm13 : MouseAt K H13 m st (ringS word N c) := (hm.exL (ExL.ofB o12) hb11.some).ex f2
  have tb13 : Tabs (TbL K) H13 := tabs_b htb o013 ⟨_, hbl⟩
  refine ⟨pt, _, rfl, .of spt, rfl, _, _, rfl, _, _, rfl, rfl, ?_⟩
  have fin := hsem b m word N lt st side c H13 hin st0 st3 s0 (by omega) c0 c9 hm13 tb13 q
  refine ⟨_, rfl, rfl, _, rfl, iteB (fun z => ?_) fun z => ?_⟩
  · have ew : word = "say" := V.str.inj (of_decide_eq_true z)
    have ed : dueL word N = N := if_pos ew
    rw [ed] at fin
    exact ⟨_, rfl, fin⟩
  · have ew : word ≠ "say" := fun e => absurd (congrArg V.str e) (of_decide_eq_false z)
    refine ⟨_, rfl, .inl ⟨_, rfl, _, 2, rfl, rfl, (by show (0 : Int) < 2; decide), rfl, _, rfl, iteB (fun z2 => ?_) fun z2 => ?_⟩⟩
    · have e1 : (N : Int) % 2 = 1 := V.int.inj (of_decide_eq_true z2)
      have ed : ((dueL word N : Nat) : Int) = 4 * (N : Int) := by
        unfold dueL
        rw [if_neg ew, if_pos (by omega)]
        omega
      rw [ed] at fin
      exact ⟨_, rfl, 4, _, rfl, rfl, .inl ⟨by decide, by decide⟩, fin⟩
    · have e1 : ¬ (N : Int) % 2 = 1 := fun e => absurd (congrArg V.int e) (of_decide_eq_false z2)
      have ed : ((dueL word N : Nat) : Int) = 2 * (N : Int) := by
        unfold dueL
        rw [if_neg ew, if_neg (by omega)]
        omega
      rw [ed] at fin
      exact ⟨_, rfl, 2, _, rfl, rfl, .inl ⟨by decide, by decide⟩, fin⟩
end K72

set_option Elab.async false
set_option linter.all false
set_option maxRecDepth 100000
set_option maxHeartbeats 4000000
namespace K72
open PySem PySem.Spec PyProof.Rows L2 Fs LamX
variable {w : World} {K : PySem.W.Frag} {mg : Str → Option Value} {base : Heap}

abbrev lCx (w : World) (K : PySem.W.Frag) (mg : Str → Option Value) (base : Heap) (A : Around) (outer : List Env) (s : Shared) (H : Hp) (E : XK) : Cx := (cxOf CX0 Pr w K mg base N_law d_law.qual (defScope s_law) (He.fAd K d_law.at_) (.ref (cL K).1) A outer s H E).nox
abbrev lRoom (K : PySem.W.Frag) (A : Around) (s : Shared) : Around := A.deeper (envOfC d_law.qual d_law.scope s.heap.objs.size (He.fAd K d_law.at_) (.ref (cL K).1))
def forOf : List Stmt → List Stmt
  | _ :: .For (body := b) .. :: _ => b
  | _ => []
theorem hu_law (T : Tx w K mg) : ∀ p ∈ TbL K, p.1 = (cL K).2 → p.2 = (("law" : Str) ++ ".<locals>.") ++ "<lambda>" := fun p hp e => by
  rcases List.mem_cons.mp hp with h | h
  · subst h; rfl
  · rcases List.mem_cons.mp h with h | h
    · subst h
      exact absurd e.symm (tbl_ne T)
    · cases h
theorem extN_ex {H H' : Hp} (e : ExtN H H') (b : Addr) : ExL b H H' := ExL.ofN e
/-- what is no mouse -/
def XV (K : PySem.W.Frag) (H : Hp) (x : V) : Prop := x = .non ∨ (∃ i, x = .int i) ∨ (∃ t, x = .str t) ∨ (∃ k, x = .bl k) ∨ (∃ a xs, x = .ref a ∧ SqT K H a xs) ∨ ∃ a, x = .ref a ∧ H a = some (.dK [])
theorem XV.ty {H : Hp} {x : V} (h : XV K H x) : ∃ n, TyX K H x (.type n) ∧ n ∈ Fs.tyNames := by
  rcases h with rfl | ⟨i, rfl⟩ | ⟨t, rfl⟩ | ⟨k, rfl⟩ | ⟨a, xs, rfl, h⟩ | ⟨a, rfl, h⟩
  · exact ⟨_, .base .non, by decide⟩
  · exact ⟨_, .base (.int _), by decide⟩
  · exact ⟨_, .base (.str _), by decide⟩
  · exact ⟨_, .base (.bl _), by decide⟩
  · exact ⟨_, tyx_sqt h, by decide⟩
  · exact ⟨_, .base (.dK h), by decide⟩
theorem XV.exL {b : Addr} {H H' : Hp} {x : V} (h : XV K H x) (e : ExL b H H') (hb : ∃ ys, H b = some (.lst ys)) : XV K H' x := by
  rcases h with h | h | h | h | ⟨a, xs, h0, h⟩ | ⟨a, h0, h⟩
  · exact .inl h
  · exact .inr (.inl h)
  · exact .inr (.inr (.inl h))
  · exact .inr (.inr (.inr (.inl h)))
  · exact .inr (.inr (.inr (.inr (.inl ⟨a, xs, h0, e.st hb h⟩))))
  · refine .inr (.inr (.inr (.inr (.inr ⟨a, h0, e a _ (fun z => ?_) h (fun _ z => by cases z)⟩))))
    obtain ⟨ys, hb⟩ := hb
    rw [z, hb] at h
    cases h
/-- what is no side -/
def YV (b : Addr) (H : Hp) (y : V) : Prop := (∃ i, y = .int i ∧ sideOk (.int i) = false) ∨ y = .non ∨ (∃ t, y = .str t) ∨ (∃ k, y = .bl k) ∨ ∃ a xs, y = .ref a ∧ a ≠ b ∧ H a = some (.lst xs)
theorem YV.side {b : Addr} {H : Hp} {y : V} (h : YV b H y) : SideV K H y ∧ sideOk y = false := by
  rcases h with ⟨i, rfl, h⟩ | rfl | ⟨t, rfl⟩ | ⟨k, rfl⟩ | ⟨a, xs, rfl, _, h⟩
  · exact ⟨.inl ⟨i, rfl⟩, h⟩
  · exact ⟨.inr ⟨_, .base .non, by decide, by decide⟩, rfl⟩
  · exact ⟨.inr ⟨_, .base (.str _), by decide, by decide⟩, rfl⟩
  · exact ⟨.inr ⟨_, .base (.bl _), by decide, by decide⟩, rfl⟩
  · exact ⟨.inr ⟨_, .base (.lst h), by decide, by decide⟩, rfl⟩
theorem YV.exL {b : Addr} {H H' : Hp} {y : V} (h : YV b H y) (e : ExL b H H') : YV b H' y := by
  rcases h with h | h | h | h | ⟨a, xs, h0, n, h⟩
  · exact .inl h
  · exact .inr (.inl h)
  · exact .inr (.inr (.inl h))
  · exact .inr (.inr (.inr (.inl h)))
  · exact .inr (.inr (.inr (.inr ⟨a, xs, h0, n, e a _ n h (fun _ z => by cases z)⟩)))
theorem BSt.mono {H : Hp} {b : Addr} {T T' : Int} (h : BSt K H b T) (le : T ≤ T') : BSt K H b T' := let ⟨c, ns, t, left, h1, h2, h3, h4, h5, h6, h7⟩ := h; ⟨c, ns, t, left, h1, h2, h3, h4, h5, by omega, h7⟩
/-- reckoner_of(mouse=.., side=..) -/
theorem kb_reck {fd : FuncData} (F : FnP K d_reckoner_of fd) : KBinds K fd ["mouse", "side"] ["mouse", "side"] (fun us ws => match us with | [] => ws | _ => []) (fun vs zs => match vs with | [] => zs | _ => []) := by
  obtain ⟨oc, od, dV, kV, doc, pm, an, cdv, ct, osl, rfl, lk, hcd, hD, hK⟩ := F.ex
  obtain rfl : dV = .none := by
    rcases hD with ⟨_, e⟩ | ⟨e, _⟩
    · exact e
    · exact absurd rfl e
  refine ⟨fun s us ws _ hl => ?_, fun r rz => ?_⟩
  · match us, ws, hl with
    | [], [a, b], _ => exact .of_eq rfl
    | [], [], hl => simp at hl
    | [], [_], hl => simp at hl
    | [], _ :: _ :: _ :: _, hl => simp at hl
    | _ :: _, _, hl => simp at hl
  · cases r with
    | nil => exact rz
    | cons _ _ => exact .nil
end K72

set_option Elab.async false
set_option linter.all false
set_option maxRecDepth 100000
set_option maxHeartbeats 4000000
namespace K72
open PySem PySem.Spec PyProof.Rows L2 Fs LamX
variable {w : World} {K : PySem.W.Frag} {mg : Str → Option Value} {base : Heap}

theorem pair_exL {b r : Addr} {H H' : Hp} {u v : V} (h : H r = some (.tup [u, v])) (e : ExL b H H') (hb : ∃ ys, H b = some (.lst ys)) : H' r = some (.tup [u, v]) :=
  e r _ (fun z => by obtain ⟨ys, hb⟩ := hb; rw [z, hb] at h; cases h) h (fun _ z => by cases z)
theorem lst_exL {b r : Addr} {H H' : Hp} {xs : List V} (h : H r = some (.lst xs)) (n : r ≠ b) (e : ExL b H H') : H' r = some (.lst xs) := e r _ n h (fun _ z => by cases z)
structure LS (K : PySem.W.Frag) (b m g : Addr) (x y : V) (st n : Int) (gl : List Ln) (H : Hp) : Prop where
  hm : MouseAt K H m st (twoL n)
  hg : MouseAt K H g 12 gl
  hx : XV K H x
  hy : YV b H y
  tb : Tabs (TbL K) H
theorem LS.to {b m g : Addr} {x y : V} {st n : Int} {gl : List Ln} {H H' : Hp} (h : LS K b m g x y st n gl H) (e : ExL b H H') (hb : ∃ ys, H b = some (.lst ys)) (tb : Tabs (TbL K) H') : LS K b m g x y st n gl H' :=
  ⟨h.hm.exL e hb, h.hg.exL e hb, h.hx.exL e hb, h.hy.exL e, tb⟩
theorem LS.ex {b m g : Addr} {x y : V} {st n : Int} {gl : List Ln} {H H' : Hp} (h : LS K b m g x y st n gl H) (e : Ex H H') (hb : ∃ ys, H b = some (.lst ys)) : LS K b m g x y st n gl H' := h.to (ExL.of e) hb (tabs_ex h.tb e)
theorem w1 : wordOf "BadMouse" = "mouse" := by decide +kernel
theorem w2 : wordOf "BadNumber" = "number" := by decide +kernel
theorem w3 : wordOf "Misfit" = "misfit" := by decide +kernel
theorem law_B (T : Tx w K mg) (TB : TabB base mg (cL K).1 (cL K).2) {A : Around} {outer : List Env} {s : Shared} {H : Hp} {E : XK} (hr : Room 9 (lRoom K A s)) :
    ∃ t, PSs (lCx w K mg base A outer s H E) ((forOf (defBody s_law)).drop 3) t ∧ ∀ (D : Ends) (b m g : Addr) (v0 v2 v7 v8 : Option V) (x y : V) (st n Tm : Int) (gl : List Ln) (H1 : Hp), 0 ≤ st → st < 12 → 0 ≤ n → n ≤ 1000 → MouseAt K H1 m st (twoL n) → MouseAt K H1 g 12 gl → XV K H1 x → YV b H1 y → BSt K H1 b Tm → Tm ≤ 800000 → Tabs (TbL K) H1 →
      (∀ H2 v7', BSt K H2 b (Tm + 1) → Tabs (TbL K) H2 → D.nx [v0, some (.ref b), v2, some (.ref m), some x, some y, some (.ref g), v7', v8] H2) →
      t D [v0, some (.ref b), v2, some (.ref m), some x, some y, some (.ref g), v7, v8] H1 := by
  obtain ⟨fdS, FS, GS⟩ := ok_staff (base := base) T
  obtain ⟨fdR, FR, GR⟩ := ok_reck (base := base) T
  have bS : Binds K fdS ["_law_beadle_here", "_law_many"] [] := FS.bindsN fun _ _ _ _ _ _ us hl => match us, hl with | [_, _], _ => rfl
  have bR : Binds K fdR ["mouse", "side"] [] := FR.bindsN fun _ _ _ _ _ _ us hl => match us, hl with | [_, _], _ => rfl
  have kR := kb_reck FR
  have nd := sc_law.nd
  have hu : (lRoom K A s).units + 64 < cLine := hr.units
  have hr8 : Room (6 + 2) (lRoom K A s) := hr.mono (by decide)
  refine ⟨_, pss_cons (ps_set (i := 7) nd rfl (Or.inl rfl) (pe_lst
      (pa_cons (by exact (pe_heard T (Tb := TbL K) (is := []) (ps := []) (k := 6) (t := fun E => tCall (spReck K) [] E (tCons (tVar 4) (tCons (tVar 5) tNil))) rfl TB rfl (List.mem_cons_self ..) (hu_law T) hr8 (lamD_by (N := N_law) (sc := defScope s_law) (by decide +kernel)) (.none fun _ => rfl) rfl ⟨fun _ _ _ _ _ _ => rfl, fun _ z => by cases z⟩
            (fun A outer s H E f c' hr2 => pe_call GR hr2 rfl T.g_reckoner_of FR.kp bR .nil (passes_call lam_takes (fun _ _ _ _ h => h)) (pa_cons (pv 4) (pa_cons (pv 5) pa_nil)))))
      (pa_cons (by exact (pe_heard T (Tb := TbL K) (is := [0]) (ps := ["_law_a1"]) (k := 6) (t := fun E => tCall (spReck K) [] E (tCons (tVar 3) (tCons (tVar 5) tNil))) rfl TB rfl (List.mem_cons_self ..) (hu_law T) hr8 (lamD_by (N := N_law) (sc := defScope s_law) (by decide +kernel)) (.one (fun _ => rfl) rfl) rfl ⟨fun z => (by cases z), fun _ _ _ _ _ _ _ _ _ => ⟨_, rfl, rfl⟩⟩
            (fun A outer s H E f c' hr2 => pe_call GR hr2 rfl T.g_reckoner_of FR.kp bR .nil (passes_call lam_takes (fun _ _ _ _ h => h)) (pa_cons (pv 3) (pa_cons (pv 5) pa_nil)))))
      (pa_cons (by exact (pe_heard T (Tb := TbL K) (is := [0]) (ps := ["_law_a2"]) (k := 6) (t := fun E => tCall (spReck K) [] E (tCons (tVar 6) (tCons (tVar 5) tNil))) rfl TB rfl (List.mem_cons_self ..) (hu_law T) hr8 (lamD_by (N := N_law) (sc := defScope s_law) (by decide +kernel)) (.one (fun _ => rfl) rfl) rfl ⟨fun z => (by cases z), fun _ _ _ _ _ _ _ _ _ => ⟨_, rfl, rfl⟩⟩
            (fun A outer s H E f c' hr2 => pe_call GR hr2 rfl T.g_reckoner_of FR.kp bR .nil (passes_call lam_takes (fun _ _ _ _ h => h)) (pa_cons (pv 6) (pa_cons (pv 5) pa_nil)))))
      pa_nil)))))
    (pss_cons (ps_set (i := 7) nd rfl (Or.inl rfl) (pe_op op_cat (pv 7) (pe_lst
      (pa_cons (by exact (pe_heard T (Tb := TbL K) (is := []) (ps := []) (k := 6) (t := fun E => tCall (spReck K) [] E (tCons (tVar 6) (tCons (tC (.int 0)) tNil))) rfl TB rfl (List.mem_cons_self ..) (hu_law T) hr8 (lamD_by (N := N_law) (sc := defScope s_law) (by decide +kernel)) (.none fun _ => rfl) rfl ⟨fun _ _ _ _ _ _ => rfl, fun _ z => by cases z⟩
            (fun A outer s H E f c' hr2 => pe_call GR hr2 rfl T.g_reckoner_of FR.kp bR .nil (passes_call lam_takes (fun _ _ _ _ h => h)) (pa_cons (pv 6) (pa_cons pe_int pa_nil)))))
      (pa_cons (by exact (pe_heard T (Tb := TbL K) (is := [0]) (ps := ["_law_a1"]) (k := 6) (t := fun E => tCall (spReck K) [] E (tCons (tVar 3) (tCons (tCall (spStaff K) [] E0 (tCons (tVar 1) (tCons (tC (.int 4)) tNil))) tNil))) rfl TB rfl (List.mem_cons_self ..) (hu_law T) hr8 (lamD_by (N := N_law) (sc := defScope s_law) (by decide +kernel)) (.one (fun _ => rfl) rfl) rfl ⟨fun z => (by cases z), fun _ _ _ _ _ _ _ _ _ => ⟨_, rfl, rfl⟩⟩
            (fun A outer s H E f c' hr2 => pe_call GR hr2 rfl T.g_reckoner_of FR.kp bR .nil (passes_call lam_takes (fun _ _ _ _ h => h)) (pa_cons (pv 3) (pa_cons (pe_call GS (hr2.mono (by decide)) rfl T.g__law_staff FS.kp bS .nil pass0 (pa_cons (pv 1) (pa_cons pe_int pa_nil))) pa_nil)))))
      pa_nil)))))
    (pss_cons (ps_if (pt_cmpR (op_neD hu) (pv 7) (pe_lst (pa_cons (pe_tup (pa_cons pe_str (pa_cons pe_str pa_nil))) (pa_cons (pe_tup (pa_cons pe_str (pa_cons pe_str pa_nil))) (pa_cons (pe_tup (pa_cons pe_str (pa_cons pe_str pa_nil))) (pa_cons (pe_tup (pa_cons pe_str (pa_cons pe_str pa_nil))) (pa_cons pe_non pa_nil)))))) (by rfl)) (pss_one (ps_ret pe_bl)) pss_nil)
    (pss_one (ps_if (pt_cmpR op_ne (pe_fld (pe_callK0 (E := fun _ _ _ => False) GR (hr.mono (by decide)) rfl T.g_reckoner_of FR.kp kR passF (pk_cons (pv 3) (pk_cons pe_int pk_nil))) rfl) (pe_op op_add (pe_fld (pv 3) rfl) pe_int) (nomark _)) (pss_one (ps_ret pe_bl)) pss_nil)))), ?_⟩
  intro D b m g v0 v2 v7 v8 x y st n Tm gl H1 st0 st12 n0 n1 hm hg hx hy hb hT htb hq
  have L1 : LS K b m g x y st n gl H1 := ⟨hm, hg, hx, hy, htb⟩
  clear hm hg hx hy htb
  have szL : ∀ k : Nat, k ≤ 100 → k ≤ sizeLine := fun k hk => Nat.le_trans hk (by decide)
  -- the first three
  refine ⟨L1.tb, fun Ha eA tA E' Q' hnon hexc => ?_⟩
  have La := L1.to (ExL.ofN eA) hb.some tA
  have ba := hb.exN eA
  obtain ⟨n1', ty1, hn1'⟩ := La.hx.ty
  refine ⟨_, rfl, _, rfl, x, y, rfl, .inl ⟨n1', ty1, hn1', th_part hexc (n := "BadMouse") (by decide) fun r1 Hb eB h1 => ?_⟩⟩
  rw [w1] at h1
  have Lb := La.ex eB ba.some
  have bb := ba.ex eB
  clear hnon hexc
  refine ⟨Lb.tb, fun Hc eC tC' E' Q' hnon hexc => ?_⟩
  have Lc := Lb.to (ExL.ofN eC) bb.some tC'
  have bc := bb.exN eC
  have h1 := pair_exL h1 (ExL.ofN eC) bb.some
  refine ⟨_, rfl, _, rfl, .ref m, y, rfl, .inr ⟨m, st, _, rfl, Lc.hm, (Lc.hy.side).1, .inl ⟨(YV.side (K := K) Lc.hy).2, th_part hexc (n := "BadNumber") (by decide) fun r2 Hd eD h2 => ?_⟩⟩⟩
  rw [w2] at h2
  have Ld := Lc.ex eD bc.some
  have bd := bc.ex eD
  have h1 := eD _ _ h1
  clear hnon hexc
  refine ⟨Ld.tb, fun He eE tE E' Q' hnon hexc => ?_⟩
  have Le := Ld.to (ExL.ofN eE) bd.some tE
  have be := bd.exN eE
  have h1 := pair_exL h1 (ExL.ofN eE) bd.some
  have h2 := pair_exL h2 (ExL.ofN eE) bd.some
  refine ⟨_, rfl, _, rfl, .ref g, y, rfl, .inr ⟨g, 12, _, rfl, Le.hg, (Le.hy.side).1, .inl ⟨(YV.side (K := K) Le.hy).2, th_part hexc (n := "BadNumber") (by decide) fun r3 Hf eF h3 => ?_⟩⟩⟩
  rw [w2] at h3
  have Lf := Le.ex eF be.some
  have bf := be.ex eF
  have h1 := eF _ _ h1
  have h2 := eF _ _ h2
  clear hnon hexc
  refine ⟨szL 3 (by decide), fun l hl => ?_⟩
  have eG : Ex Hf (upd Hf l (.lst [.ref r1, .ref r2, .ref r3])) := Ex.new hl
  have sl : upd Hf l (.lst [.ref r1, .ref r2, .ref r3]) l = some (.lst [.ref r1, .ref r2, .ref r3]) := upd_same
  have nlb : l ≠ b := by
    obtain ⟨ys, hbl⟩ := bf.some
    exact Ne.symm (ne_of_none hbl hl)
  generalize upd Hf l (.lst [.ref r1, .ref r2, .ref r3]) = Hg at eG sl
  have Lg := Lf.ex eG bf.some
  have bg := bf.ex eG
  have h1 := eG _ _ h1
  have h2 := eG _ _ h2
  have h3 := eG _ _ h3
  -- the other two
  refine ⟨_, rfl, ?_⟩
  refine ⟨Lg.tb, fun Hh eH tH E' Q' hnon hexc => ?_⟩
  have Lh := Lg.to (ExL.ofN eH) bg.some tH
  have bh := bg.exN eH
  have h1 := pair_exL h1 (ExL.ofN eH) bg.some
  have h2 := pair_exL h2 (ExL.ofN eH) bg.some
  have h3 := pair_exL h3 (ExL.ofN eH) bg.some
  have sl := lst_exL sl nlb (ExL.ofN eH)
  refine ⟨_, rfl, .ref g, .int 0, rfl, .inr ⟨g, 12, _, rfl, Lh.hg, .inl ⟨0, rfl⟩, .inr ⟨0, rfl, by decide, by decide, .inl ⟨rfl, th_part hexc (n := "Misfit") (by decide) fun r4 Hi eI h4 => ?_⟩⟩⟩⟩
  rw [w3] at h4
  have Li := Lh.ex eI bh.some
  have bi := bh.ex eI
  have h1 := eI _ _ h1
  have h2 := eI _ _ h2
  have h3 := eI _ _ h3
  have sl := eI _ _ sl
  clear hnon hexc
  refine ⟨Li.tb, fun Hj eJ tJ E' Q' hnon hexc => ?_⟩
  have Lj := Li.to (ExL.ofN eJ) bi.some tJ
  have bj := bi.exN eJ
  have h1 := pair_exL h1 (ExL.ofN eJ) bi.some
  have h2 := pair_exL h2 (ExL.ofN eJ) bi.some
  have h3 := pair_exL h3 (ExL.ofN eJ) bi.some
  have h4 := pair_exL h4 (ExL.ofN eJ) bi.some
  have sl := lst_exL sl nlb (ExL.ofN eJ)
  refine ⟨_, rfl, _, rfl, b, 4, Tm, rfl, by decide, by decide, bj, by omega, fun rr Hk r0 r4' bk oK => ?_⟩
  have Lk := Lj.to (ExL.ofB oK) bj.some (tabs_b Lj.tb oK bj.some)
  have h1 := pair_exL h1 (ExL.ofB oK) bj.some
  have h2 := pair_exL h2 (ExL.ofB oK) bj.some
  have h3 := pair_exL h3 (ExL.ofB oK) bj.some
  have h4 := pair_exL h4 (ExL.ofB oK) bj.some
  have sl := lst_exL sl nlb (ExL.ofB oK)
  have ok2 := two_ok n0 (by omega : n ≤ 1000000000)
  refine ⟨.ref m, .int rr, rfl, .inr ⟨m, st, _, rfl, Lk.hm, .inl ⟨rr, rfl⟩, .inr ⟨rr, rfl, r0, by omega, .inr ⟨st0, st12, ok2, fun h' => ?_, fun row hrow Hr rk rl er hrk _ _ => hnon _ Hr (fun Ho eO => ?_)⟩⟩⟩⟩
  · obtain ⟨row, hrow⟩ := two_stand (n := n) (st := st) r0 (by omega : rr ≤ 3)
    rw [hrow] at h'
    cases h'
  have eO := er.trans eO
  have Lo := Lk.ex eO bk.some
  have bo := bk.ex eO
  have h1 := eO _ _ h1
  have h2 := eO _ _ h2
  have h3 := eO _ _ h3
  have h4 := eO _ _ h4
  have sl := eO _ _ sl
  clear hnon hexc
  refine ⟨szL 2 (by decide), fun l2 hl2 => ?_⟩
  have eP : Ex Ho (upd Ho l2 (.lst [.ref r4, .non])) := Ex.new hl2
  have sl2 : upd Ho l2 (.lst [.ref r4, .non]) l2 = some (.lst [.ref r4, .non]) := upd_same
  generalize upd Ho l2 (.lst [.ref r4, .non]) = Hp1 at eP sl2
  refine ⟨l, l2, _, _, rfl, rfl, eP _ _ sl, sl2, szL 5 (by decide), fun l3 hl3 => ?_⟩
  have eQ : Ex Hp1 (upd Hp1 l3 (.lst ([.ref r1, .ref r2, .ref r3] ++ [.ref r4, .non]))) := Ex.new hl3
  have sl3 : upd Hp1 l3 (.lst ([.ref r1, .ref r2, .ref r3] ++ [.ref r4, .non])) l3 = some (.lst [.ref r1, .ref r2, .ref r3, .ref r4, .non]) := upd_same
  generalize upd Hp1 l3 (.lst ([.ref r1, .ref r2, .ref r3] ++ [.ref r4, .non])) = Hq at eQ sl3
  have eQ := eP.trans eQ
  have Lq := Lo.ex eQ bo.some
  have bq := bo.ex eQ
  have h1 := eQ _ _ h1
  have h2 := eQ _ _ h2
  have h3 := eQ _ _ h3
  have h4 := eQ _ _ h4
  -- what is looked for
  refine ⟨_, rfl, szL 2 (by decide), fun q1 hq1 => ?_⟩
  have f1 : Ex Hq (upd Hq q1 (.tup [.str "mouse", .str "mouse"])) := Ex.new hq1
  have k1 : upd Hq q1 (.tup [.str "mouse", .str "mouse"]) q1 = some (.tup [.str "mouse", .str "mouse"]) := upd_same
  generalize upd Hq q1 (.tup [.str "mouse", .str "mouse"]) = G1 at f1 k1
  refine ⟨szL 2 (by decide), fun q2 hq2 => ?_⟩
  have f2 : Ex G1 (upd G1 q2 (.tup [.str "number", .str "side"])) := Ex.new hq2
  have k2 : upd G1 q2 (.tup [.str "number", .str "side"]) q2 = some (.tup [.str "number", .str "side"]) := upd_same
  generalize upd G1 q2 (.tup [.str "number", .str "side"]) = G2 at f2 k2
  refine ⟨szL 2 (by decide), fun q3 hq3 => ?_⟩
  have f3 : Ex G2 (upd G2 q3 (.tup [.str "number", .str "side"])) := Ex.new hq3
  have k3 : upd G2 q3 (.tup [.str "number", .str "side"]) q3 = some (.tup [.str "number", .str "side"]) := upd_same
  generalize upd G2 q3 (.tup [.str "number", .str "side"]) = G3 at f3 k3
  refine ⟨szL 2 (by decide), fun q4 hq4 => ?_⟩
  have f4 : Ex G3 (upd G3 q4 (.tup [.str "misfit", .str "mouse"])) := Ex.new hq4
  have k4 : upd G3 q4 (.tup [.str "misfit", .str "mouse"]) q4 = some (.tup [.str "misfit", .str "mouse"]) := upd_same
  generalize upd G3 q4 (.tup [.str "misfit", .str "mouse"]) = G4 at f4 k4
  refine ⟨szL 5 (by decide), fun l4 hl4 => ?_⟩
  have f5 : Ex G4 (upd G4 l4 (.lst [.ref q1, .ref q2, .ref q3, .ref q4, .non])) := Ex.new hl4
  have k5 : upd G4 l4 (.lst [.ref q1, .ref q2, .ref q3, .ref q4, .non]) l4 = some (.lst [.ref q1, .ref q2, .ref q3, .ref q4, .non]) := upd_same
  generalize upd G4 l4 (.lst [.ref q1, .ref q2, .ref q3, .ref q4, .non]) = G5 at f5 k5
  have f15 : Ex Hq G5 := f1.trans (f2.trans (f3.trans (f4.trans f5)))
  have k1 := f5 _ _ (f4 _ _ (f3 _ _ (f2 _ _ k1)))
  have k2 := f5 _ _ (f4 _ _ (f3 _ _ k2))
  have k3 := f5 _ _ (f4 _ _ k3)
  have k4 := f5 _ _ k4
  have h1 := f15 _ _ h1
  have h2 := f15 _ _ h2
  have h3 := f15 _ _ h3
  have h4 := f15 _ _ h4
  have sl3 := f15 _ _ sl3
  have L5 := Lq.ex f15 bq.some
  have b5 := bq.ex f15
  have pr : ∀ {a : Addr} {u v : Str}, G5 a = some (.tup [.str u, .str v]) → Dp K G5 (.ref a) (.tuple [.str u, .str v]) := fun h => .tup (.of h) (.cons (.str _) (.cons (.str _) .nil))
  refine ⟨.list [.tuple [.str "mouse", .str "mouse"], .tuple [.str "number", .str "side"], .tuple [.str "number", .str "side"], .tuple [.str "misfit", .str "mouse"], .none], .list [.tuple [.str "mouse", .str "mouse"], .tuple [.str "number", .str "side"], .tuple [.str "number", .str "side"], .tuple [.str "misfit", .str "mouse"], .none],
    .lst (.of sl3) (.cons (pr h1) (.cons (pr h2) (.cons (pr h3) (.cons (pr h4) (.cons .non .nil))))), .lst (.of k5) (.cons (pr k1) (.cons (pr k2) (.cons (pr k3) (.cons (pr k4) (.cons .non .nil))))), by decide +kernel, by decide +kernel, _, rfl, ?_⟩
  refine iteB (fun z => absurd z (by decide +kernel)) fun _ => ?_
  -- a reckoner of it, by keywords
  obtain ⟨row3, hrow3⟩ := two_stand (n := n) (st := st) (side := 3) (by decide) (by decide)
  refine ⟨_, rfl, .ref m, .int 3, rfl, .inr ⟨m, st, _, rfl, L5.hm, .inl ⟨3, rfl⟩, .inr ⟨3, rfl, by decide, by decide, .inr ⟨st0, st12, ok2, fun h' => (by rw [hrow3] at h'; cases h'), fun row hrow Hr rk rl er hrk _ _ => ?_⟩⟩⟩⟩
  obtain ⟨dx, LL, i1, _⟩ := hrk
  obtain ⟨mdx, mL, mh, _⟩ := L5.hm.ex er
  refine ⟨rk, _, dx, _, .int (st + 1), rfl, i1, T.c_Reckoner, T.a_Reckoner_boxes, rfl, _, rfl, m, _, mdx, _, .int st, rfl, mh, T.c_Mouse, T.a_Mouse_stones, rfl, st, 1, rfl, rfl, rfl, _, rfl, iteB (fun z => ?_) fun _ => ?_⟩
  · simp at z
  exact hq _ _ (b5.ex er) (tabs_ex L5.tb er)
end K72

set_option Elab.async false
set_option linter.all false
set_option maxRecDepth 100000
set_option maxHeartbeats 4000000
namespace K72
open PySem PySem.Spec PyProof.Rows L2 Fs LamX
variable {w : World} {K : PySem.W.Frag} {mg : Str → Option Value} {base : Heap}

theorem szL {k : Nat} (hk : k ≤ 100) : k ≤ sizeLine := Nat.le_trans hk (by decide)
theorem mk_mouse2 {H1 : Hp} {l : Addr} {refs : List Addr} {lines : List Ln} {st : Int} {R : Addr → Hp → Prop} {E : XK} (s0 : 0 ≤ st) (s12 : st ≤ 12) (hl : SqL K H1 l (refs.map V.ref)) (hp : Paired (LineAt K H1) refs lines) (n1 : 1 ≤ lines.length) (n2 : lines.length ≤ 6000)
    (hg : ∀ ln ∈ lines, Good st lines.length ln) (q : ∀ m H', Ex H1 H' → H1 m = none → MouseAt K H' m st lines → R m H') :
    ∀ x dx, H1 x = none → H1 dx = none → dx ≠ x → spMouse K (.ref x :: ([.int st, .ref l] ++ [])) (upd (upd H1 dx (.own x)) x (.ins (He.ga K "Mouse") dx [])) (fun v H2 => v = .non ∧ R x H2) E := by
  intro x dx hx hdx hne
  have e6 : Ex H1 (upd H1 dx (.own x)) := Ex.new hdx
  have hx6 : upd H1 dx (.own x) x = none := by rw [upd_ne (Ne.symm hne)]; exact hx
  have e7 : Ex H1 (upd (upd H1 dx (.own x)) x (.ins (He.ga K "Mouse") dx [])) := e6.trans (Ex.new hx6)
  refine ⟨x, st, l, refs, lines, dx, rfl, upd_same, s0, s12, e7.sl hl, lines_ex e7 hp, n1, n2, hg, fun H8 e8 hm => ⟨rfl, q x H8 (fun b o hb => e8 b o (ne_of_none hb hx) (e7 b o hb)) hx hm⟩⟩
theorem law_A (T : Tx w K mg) (TB : TabB base mg (cL K).1 (cL K).2) {A : Around} {outer : List Env} {s : Shared} {H : Hp} {E : XK} (hr : Room 9 (lRoom K A s)) :
    ∃ t, PSs (lCx w K mg base A outer s H E) (forOf (defBody s_law)) t ∧ ∀ (D : Ends) (b : Addr) (v0 v2 v3 v4 v5 v6 v7 v8 : Option V) (Tm : Int) (H1 : Hp), BSt K H1 b Tm → Tm ≤ 700000 → Tabs (TbL K) H1 →
      (∀ H2 v3' v4' v5' v6' v7', BSt K H2 b (Tm + 20) → Tabs (TbL K) H2 → D.nx [v0, some (.ref b), v2, v3', v4', v5', v6', v7', v8] H2) →
      t D [v0, some (.ref b), v2, v3, v4, v5, v6, v7, v8] H1 := by
  obtain ⟨fdS, FS, GS⟩ := ok_staff (base := base) T
  obtain ⟨fdP, FP, GP⟩ := ok_pick (base := base) T
  obtain ⟨fdM, FM, GM⟩ := ok_mouse (base := base) T
  obtain ⟨fdT, FT, GT, bT⟩ := ok_strC (base := base) T
  have bS : Binds K fdS ["_law_beadle_here", "_law_many"] [] := FS.bindsN fun _ _ _ _ _ _ us hl => match us, hl with | [_, _], _ => rfl
  have bP : Binds K fdP ["_law_beadle_here", "_law_some"] [] := FP.bindsN fun _ _ _ _ _ _ us hl => match us, hl with | [_, _], _ => rfl
  have bM : Binds K fdM ["self", "stones", "lines"] [] := FM.bindsN fun _ _ _ _ _ _ us hl => match us, hl with | [_, _, _], _ => rfl
  have nd := sc_law.nd
  have r1 : Room 1 (lRoom K A s) := hr.mono (by decide)
  have r2 : Room 2 (lRoom K A s) := hr.mono (by decide)
  have r3 : Room (1 + 2) (lRoom K A s) := hr.mono (by decide)
  have r6 : Room (5 + 1) (lRoom K A s) := hr.mono (by decide)
  obtain ⟨tB, htB, hB⟩ := law_B (base := base) T TB (A := A) (outer := outer) (s := s) (H := H) (E := E) hr
  refine ⟨_, pss_cons (ps_set (i := 3) nd rfl (Or.inr rfl) (pe_make T.k_Mouse GM r6 rfl T.g_Mouse bM .nil pass0
      (pa_cons (pe_call GP r2 rfl T.g__law_pick FP.kp bP .nil pass0 (pa_cons (pv 1) (pa_cons (pe_lst (pa_cons pe_int (pa_cons pe_int (pa_cons pe_int pa_nil)))) pa_nil)))
      (pa_cons (pe_lst (pa_cons (pe_tup (pa_cons pe_str (pa_cons pe_int pa_nil))) (pa_cons (pe_tup (pa_cons pe_str (pa_cons (pe_call GS r1 rfl T.g__law_staff FS.kp bS .nil pass0 (pa_cons (pv 1) (pa_cons pe_int pa_nil))) (pa_cons pe_int pa_nil)))) pa_nil))) pa_nil))))
    (pss_cons (ps_asg (pe_tup (pa_cons (pe_call GP r2 rfl T.g__law_pick FP.kp bP .nil pass0 (pa_cons (pv 1) (pa_cons (pe_lst (pa_cons pe_non (pa_cons pe_int (pa_cons (pe_fld (pv 3) rfl)
          (pa_cons (pe_callTy (T := "str") (r := rStrOwn (He.ga K "Mouse") (spStr K)) (call_strOwn T.m_Mouse_UstrU GT r3 bT) rfl T.n_str (by decide +kernel) (pa_cons (pv 3) pa_nil)) (pa_cons pe_bl (pa_cons pe_dnewK pa_nil))))))) pa_nil)))
        (pa_cons (pe_call GP r2 rfl T.g__law_pick FP.kp bP .nil pass0 (pa_cons (pv 1) (pa_cons (pe_lst (pa_cons pe_int (pa_cons (pe_un un_neg pe_int) (pa_cons pe_non (pa_cons pe_bl (pa_cons pe_str (pa_cons (pe_lst (pa_cons pe_int pa_nil)) (pa_cons (pe_op op_pow pe_int pe_int) pa_nil)))))))) pa_nil))) pa_nil)))
      (pg_tup rfl (pgs_cons (pg_name (i := 4) nd rfl (Or.inr rfl)) (pgs_cons (pg_name (i := 5) nd rfl (Or.inr rfl)) pgs_nil))))
    (pss_cons (ps_set (i := 6) nd rfl (Or.inr rfl) (pe_make T.k_Mouse GM r6 rfl T.g_Mouse bM .nil pass0 (pa_cons pe_int
      (pa_cons (pe_lst (pa_cons (pe_tup (pa_cons pe_str (pa_cons (pe_call GS r1 rfl T.g__law_staff FS.kp bS .nil pass0 (pa_cons (pv 1) (pa_cons pe_int pa_nil))) (pa_cons pe_int (pa_cons pe_int pa_nil))))) (pa_cons (pe_tup (pa_cons pe_str pa_nil)) pa_nil))) pa_nil)))) htB)), ?_⟩
  intro D b v0 v2 v3 v4 v5 v6 v7 v8 Tm H1 hb hT htb hq
  obtain ⟨bys, hbl⟩ := hb.some
  -- the mouse
  refine ⟨_, rfl, szL (by simp), fun l hl => ?_⟩
  have e1 : Ex H1 (upd H1 l (.lst [.int 0, .int 1, .int 11])) := Ex.new hl
  have sl : upd H1 l (.lst [.int 0, .int 1, .int 11]) l = some (.lst [.int 0, .int 1, .int 11]) := upd_same
  have nl : l ≠ b := Ne.symm (ne_of_none hbl hl)
  generalize upd H1 l (.lst [.int 0, .int 1, .int 11]) = H2 at e1 sl
  have t2 := tabs_ex htb e1
  have b2 := hb.ex e1
  refine ⟨b, l, _, Tm, rfl, .inl (.inl sl), nl, by show 0 < 3; decide, by show 3 < 1000000; decide, b2, by omega, fun i x H3 hx b3 o3 => ?_⟩
  have hx' : ∃ st : Int, x = .int st ∧ 0 ≤ st ∧ st < 12 := by
    match i, hx with
    | 0, hx => cases hx; exact ⟨0, rfl, by decide, by decide⟩
    | 1, hx => cases hx; exact ⟨1, rfl, by decide, by decide⟩
    | 2, hx => cases hx; exact ⟨11, rfl, by decide, by decide⟩
    | i + 3, hx => simp at hx
  obtain ⟨st, rfl, st0, st12⟩ := hx'
  have t3 := tabs_b t2 o3 b2.some
  refine ⟨szL (by simp), fun p1 hp1 => ?_⟩
  have e4 : Ex H3 (upd H3 p1 (.tup [.str "turn", .int 1])) := Ex.new hp1
  have s1 : upd H3 p1 (.tup [.str "turn", .int 1]) p1 = some (.tup [.str "turn", .int 1]) := upd_same
  generalize upd H3 p1 (.tup [.str "turn", .int 1]) = H4 at e4 s1
  have b4 := b3.ex e4
  have t4 := tabs_ex t3 e4
  refine ⟨_, rfl, b, 99, _, rfl, by decide, by decide, b4, by omega, fun n H5 n0 n99 b5 o5 => ?_⟩
  have t5 := tabs_b t4 o5 b4.some
  have s1 := pair_exL s1 (ExL.ofB o5) b4.some
  refine ⟨szL (by simp), fun p2 hp2 => ?_⟩
  have e6 : Ex H5 (upd H5 p2 (.tup [.str "say", .int n, .int 0])) := Ex.new hp2
  have s2 : upd H5 p2 (.tup [.str "say", .int n, .int 0]) p2 = some (.tup [.str "say", .int n, .int 0]) := upd_same
  generalize upd H5 p2 (.tup [.str "say", .int n, .int 0]) = H6 at e6 s2
  refine ⟨szL (by simp), fun l2 hl2 => ?_⟩
  have e7 : Ex H6 (upd H6 l2 (.lst [.ref p1, .ref p2])) := Ex.new hl2
  have sl2 : upd H6 l2 (.lst [.ref p1, .ref p2]) l2 = some (.lst [.ref p1, .ref p2]) := upd_same
  generalize upd H6 l2 (.lst [.ref p1, .ref p2]) = H7 at e7 sl2
  have s1 := e7 _ _ (e6 _ _ s1)
  have s2 := e7 _ _ s2
  have e57 := e6.trans e7
  have b7 := b5.ex e57
  have t7 := tabs_ex t5 e57
  refine mk_mouse2 (lines := twoL n) (refs := [p1, p2]) st0 (by omega) (.inl (.inl sl2)) (.cons (.of s1) (.cons (.of s2) .nil)) (by show 1 ≤ 2; decide) (by show 2 ≤ 6000; decide) (fun ln hln => ?_) fun m H8 e8 _ hm => ?_
  · have h' : ln = (("turn", [1]) : Ln) ∨ ln = (("say", [n, 0]) : Ln) := by simpa [twoL] using hln
    rcases h' with h | h <;> subst h
    · exact good_turn (by decide) (by show (1 : Int) ≤ 2 - 1; decide)
    · exact good_say n0 (by omega) (by decide) (by show (0 : Int) ≤ 2 - 1; decide)
  have b8 := b7.ex e8
  have t8 := tabs_ex t7 e8
  -- what is no mouse
  obtain ⟨dx, L, hm1, mrefs, hL, _⟩ := id hm
  refine ⟨_, rfl, _, rfl, m, _, dx, _, .ref L, rfl, hm1, T.c_Mouse, T.a_Mouse_lines, rfl, _, rfl, m, dx, _, rfl, hm1, m, st, twoL n, rfl, hm, st0, by omega, by show 2 ≤ 2; decide, fun ln hln => ?_, fun y1 H9 e9 => ⟨y1, rfl, fun d hd => ?_⟩⟩
  · have h' : ln = (("turn", [1]) : Ln) ∨ ln = (("say", [n, 0]) : Ln) := by simpa [twoL] using hln
    rcases h' with h | h <;> subst h
    · exact ⟨by decide, by show 1 ≤ 3; decide, fun x hx => by
        have : x = 1 := by simpa using hx
        omega⟩
    · exact ⟨by show ("say" : Str).length ≤ 10; decide, by show 2 ≤ 3; decide, fun x hx => by
        have : x = n ∨ x = 0 := by simpa using hx
        omega⟩
  have e10 : Ex H9 (upd H9 d (.dK [])) := Ex.new hd
  have sd : upd H9 d (.dK []) d = some (.dK []) := upd_same
  generalize upd H9 d (.dK []) = H10 at e10 sd
  refine ⟨szL (by simp), fun l3 hl3 => ?_⟩
  have e11 : Ex H10 (upd H10 l3 (.lst [.non, .int 5, .ref L, .str y1, .bl true, .ref d])) := Ex.new hl3
  have sl3 : upd H10 l3 (.lst [.non, .int 5, .ref L, .str y1, .bl true, .ref d]) l3 = some (.lst [.non, .int 5, .ref L, .str y1, .bl true, .ref d]) := upd_same
  have e811 := e9.trans e10
  have nl3 : l3 ≠ b := by
    obtain ⟨ys, hbl8⟩ := b8.some
    exact Ne.symm (ne_of_none (e811 _ _ hbl8) hl3)
  generalize upd H10 l3 (.lst [.non, .int 5, .ref L, .str y1, .bl true, .ref d]) = H11 at e11 sl3
  have e811 := e811.trans e11
  have b11 := b8.ex e811
  have t11 := tabs_ex t8 e811
  have hm11 := hm.ex e811
  have hL11 := e811.st hL
  have sd := e11 _ _ sd
  refine ⟨b, l3, _, _, rfl, .inl (.inl sl3), nl3, by show 0 < 6; decide, by show 6 < 1000000; decide, b11, by omega, fun i x H12 hx b12 o12 => ?_⟩
  have xv : XV K H11 x := by
    match i, hx with
    | 0, hx => cases hx; exact .inl rfl
    | 1, hx => cases hx; exact .inr (.inl ⟨_, rfl⟩)
    | 2, hx => cases hx; exact .inr (.inr (.inr (.inr (.inl ⟨_, _, rfl, hL11⟩))))
    | 3, hx => cases hx; exact .inr (.inr (.inl ⟨_, rfl⟩))
    | 4, hx => cases hx; exact .inr (.inr (.inr (.inl ⟨_, rfl⟩)))
    | 5, hx => cases hx; exact .inr (.inr (.inr (.inr (.inr ⟨_, rfl, sd⟩))))
    | i + 6, hx => simp at hx
  have xv := xv.exL (ExL.ofB o12) b11.some
  have hm12 := hm11.exL (ExL.ofB o12) b11.some
  have t12 := tabs_b t11 o12 b11.some
  -- what is no side
  refine ⟨_, rfl, 1, rfl, szL (by simp), fun l0 hl0 => ?_⟩
  have e13 : Ex H12 (upd H12 l0 (.lst [.int 0])) := Ex.new hl0
  have sl0 : upd H12 l0 (.lst [.int 0]) l0 = some (.lst [.int 0]) := upd_same
  have nl0 : l0 ≠ b := by
    obtain ⟨ys, hbl'⟩ := b12.some
    exact Ne.symm (ne_of_none hbl' hl0)
  generalize upd H12 l0 (.lst [.int 0]) = H13 at e13 sl0
  refine ⟨10, 20, rfl, rfl, ⟨by decide, by decide, by decide⟩, szL (by simp), fun l4 hl4 => ?_⟩
  have e14 : Ex H13 (upd H13 l4 (.lst [.int 4, .int (-1), .non, .bl true, .str "1", .ref l0, .int (10 ^ (20 : Int).toNat)])) := Ex.new hl4
  have sl4 : upd H13 l4 (.lst [.int 4, .int (-1), .non, .bl true, .str "1", .ref l0, .int (10 ^ (20 : Int).toNat)]) l4 = some (.lst [.int 4, .int (-1), .non, .bl true, .str "1", .ref l0, .int (10 ^ (20 : Int).toNat)]) := upd_same
  have nl4 : l4 ≠ b := by
    obtain ⟨ys, hbl'⟩ := b12.some
    exact Ne.symm (ne_of_none (e13 _ _ hbl') hl4)
  generalize upd H13 l4 (.lst [.int 4, .int (-1), .non, .bl true, .str "1", .ref l0, .int (10 ^ (20 : Int).toNat)]) = H14 at e14 sl4
  have e1214 := e13.trans e14
  have b14 := b12.ex e1214
  have t14 := tabs_ex t12 e1214
  have sl0 := e14 _ _ sl0
  refine ⟨b, l4, _, _, rfl, .inl (.inl sl4), nl4, by show 0 < 7; decide, by show 7 < 1000000; decide, b14, by omega, fun i y H15 hy b15 o15 => ?_⟩
  have yv : YV b H14 y := by
    match i, hy with
    | 0, hy => cases hy; exact .inl ⟨_, rfl, by decide⟩
    | 1, hy => cases hy; exact .inl ⟨_, rfl, by decide⟩
    | 2, hy => cases hy; exact .inr (.inl rfl)
    | 3, hy => cases hy; exact .inr (.inr (.inr (.inl ⟨_, rfl⟩)))
    | 4, hy => cases hy; exact .inr (.inr (.inl ⟨_, rfl⟩))
    | 5, hy => cases hy; exact .inr (.inr (.inr (.inr ⟨_, _, rfl, nl0, sl0⟩)))
    | 6, hy => cases hy; exact .inl ⟨_, rfl, by decide⟩
    | i + 7, hy => simp at hy
  have yv := yv.exL (ExL.ofB (b := b) o15)
  have xv := (xv.exL (ExL.of e1214) b12.some).exL (ExL.ofB o15) b14.some
  have hm15 := (hm12.ex e1214).exL (ExL.ofB o15) b14.some
  have t15 := tabs_b t14 o15 b14.some
  refine ⟨szL (by simp), fun pt hpt => ?_⟩
  have e16 : Ex H15 (upd H15 pt (.tup [x, y])) := Ex.new hpt
  have spt : upd H15 pt (.tup [x, y]) pt = some (.tup [x, y]) := upd_same
  generalize upd H15 pt (.tup [x, y]) = H16 at e16 spt
  have b16 := b15.ex e16
  have t16 := tabs_ex t15 e16
  refine ⟨pt, _, rfl, .of spt, rfl, _, _, rfl, _, _, rfl, rfl, ?_⟩
  -- the great one
  refine ⟨_, rfl, b, 12, _, rfl, by decide, by decide, b16, by omega, fun k H17 k0 k12 b17 o17 => ?_⟩
  have xv := (xv.exL (ExL.of e16) b15.some).exL (ExL.ofB o17) b16.some
  have yv := (yv.exL (ExL.of (b := b) e16)).exL (ExL.ofB o17)
  have hm17 := (hm15.ex e16).exL (ExL.ofB o17) b16.some
  have t17 := tabs_b t16 o17 b16.some
  refine ⟨szL (by simp), fun p3 hp3 => ?_⟩
  have e18 : Ex H17 (upd H17 p3 (.tup [.str "lay", .int k, .int 4, .int 1])) := Ex.new hp3
  have s3 : upd H17 p3 (.tup [.str "lay", .int k, .int 4, .int 1]) p3 = some (.tup [.str "lay", .int k, .int 4, .int 1]) := upd_same
  generalize upd H17 p3 (.tup [.str "lay", .int k, .int 4, .int 1]) = H18 at e18 s3
  refine ⟨szL (by simp), fun p4 hp4 => ?_⟩
  have e19 : Ex H18 (upd H18 p4 (.tup [.str "stop"])) := Ex.new hp4
  have s4 : upd H18 p4 (.tup [.str "stop"]) p4 = some (.tup [.str "stop"]) := upd_same
  generalize upd H18 p4 (.tup [.str "stop"]) = H19 at e19 s4
  refine ⟨szL (by simp), fun l5 hl5 => ?_⟩
  have e20 : Ex H19 (upd H19 l5 (.lst [.ref p3, .ref p4])) := Ex.new hl5
  have sl5 : upd H19 l5 (.lst [.ref p3, .ref p4]) l5 = some (.lst [.ref p3, .ref p4]) := upd_same
  generalize upd H19 l5 (.lst [.ref p3, .ref p4]) = H20 at e20 sl5
  have s3 := e20 _ _ (e19 _ _ s3)
  have s4 := e20 _ _ s4
  refine mk_mouse2 (lines := [("lay", [k, 4, 1]), ("stop", [])]) (refs := [p3, p4]) (by decide) (by decide) (.inl (.inl sl5)) (.cons (.of s3) (.cons (.of s4) .nil)) (by show 1 ≤ 2; decide) (by show 2 ≤ 6000; decide) (fun ln hln => ?_) fun g H21 e21 _ hg => ?_
  · have h' : ln = (("lay", [k, 4, 1]) : Ln) ∨ ln = (("stop", []) : Ln) := by simpa using hln
    rcases h' with h | h <;> subst h
    · exact good_lay k0 (by omega) (by decide) (by show (1 : Int) ≤ 2 - 1; decide)
    · exact good_stop
  have e1721 := e18.trans (e19.trans (e20.trans e21))
  refine hB D b m g v0 v2 v7 v8 x y st n _ _ H21 st0 st12 n0 (by omega) (hm17.ex e1721) hg (xv.exL (ExL.of e1721) b17.some) (yv.exL (ExL.of e1721)) (b17.ex e1721) (by omega) (tabs_ex t17 e1721) fun H22 v7' b22 t22 => ?_
  exact hq _ _ _ _ _ _ (b22.mono (by omega)) t22
end K72

set_option Elab.async false
set_option linter.all false
set_option maxRecDepth 100000
set_option maxHeartbeats 4000000
namespace K72
open PySem PySem.Spec PyProof.Rows L2 Fs LamX
variable {w : World} {K : PySem.W.Frag} {mg : Str → Option Value} {base : Heap}

def spLaw (K : PySem.W.Frag) : Sp := fun vs H Q _ => ∃ (a : Addr) (ns : List Int), vs = [.ref a] ∧ SqL K H a (ns.map V.int) ∧ Tabs (TbL K) H ∧ ∀ H', Q (.bl true) H'
theorem ok_law (T : Tx w K mg) (TB : TabB base mg (cL K).1 (cL K).2) (TB2 : TabB base mg (cB K).1 (cB K).2) {fd : FuncData} (F : FnP K d_law fd) : FnOk Pr w K mg base CX0 10 (He.fAd K d_law.at_) fd ["_law_script"] (spLaw K) := by
  obtain ⟨fdD, FD, GD⟩ := ok_beadle (base := base) T
  obtain ⟨fdS, FS, GS⟩ := ok_staff (base := base) T
  obtain ⟨fdG, FG, GG⟩ := ok_ring (base := base) T
  obtain ⟨fdR, FR, GR⟩ := ok_reck (base := base) T
  obtain ⟨fdB, FB, GB⟩ := ok_br (base := base) T TB2
  have bD : Binds K fdD ["_law_script"] [] := FD.bindsN fun _ _ _ _ _ _ us hl => match us, hl with | [_], _ => rfl
  have bS : Binds K fdS ["_law_beadle_here", "_law_many"] [] := FS.bindsN fun _ _ _ _ _ _ us hl => match us, hl with | [_, _], _ => rfl
  have bG : Binds K fdG ["_law_beadle_here", "_law_word", "_law_long", "_law_stones"] [] := FG.bindsN fun _ _ _ _ _ _ us hl => match us, hl with | [_, _, _, _], _ => rfl
  have bR : Binds K fdR ["mouse", "side"] [] := FR.bindsN fun _ _ _ _ _ _ us hl => match us, hl with | [_, _], _ => rfl
  have bB : Binds K fdB ["_law_beadle_here"] [] := FB.bindsN fun _ _ _ _ _ _ us hl => match us, hl with | [_], _ => rfl
  obtain ⟨oc, od, dV, kV, doc, pm, an, cdv, ct, osl, rfl, lk, hcd, _, _⟩ := F.ex
  obtain ⟨cc, rfl⟩ := He.codeIn_ref hcd
  have ecc : cc = (cL K).1 := (He.codeOf_eq lk rfl).symm
  subst ecc
  refine fn_of lk hcd sc_law (fun vs H Q E h => ?_) fun A outer s H vs Q E hr h => ?_
  · obtain ⟨a, ns, rfl, _⟩ := h; rfl
  have nd := sc_law.nd
  have hu : (lRoom K A s).units + 64 < cLine := hr.units
  have hr8 : Room (6 + 2) (lRoom K A s) := hr.mono (by decide)
  obtain ⟨tA, htA, hA⟩ := law_A (base := base) T TB (A := A) (outer := outer) (s := s) (H := H) (E := E) hr
  refine ⟨_, PSs.nox (pss_cons (ps_set (i := 1) nd rfl (Or.inr rfl) (pe_call GD (hr.mono (by decide)) rfl T.g__law_beadle FD.kp bD .nil pass0 (pa_cons (pv 0) pa_nil)))
    (pss_cons (ps_for PassesOwn.never rfl (pi_range1 rfl T.n_range (pa_cons pe_int pa_nil)) (pg_name (i := 2) nd rfl (Or.inl rfl)) htA)
    (pss_cons (ps_if (pt_cmpR op_eq (pe_call GS (hr.mono (by decide)) rfl T.g__law_staff FS.kp bS .nil pass0 (pa_cons (pv 1) (pa_cons pe_int pa_nil))) pe_int (nomark _))
      (pss_cons (ps_set (i := 8) nd rfl (Or.inr rfl) (pe_call GG (hr.mono (by decide)) rfl T.g__law_ring FG.kp bG .nil pass0 (pa_cons (pv 1) (pa_cons pe_str (pa_cons pe_int (pa_cons pe_int pa_nil))))))
      (pss_cons (ps_if (pt_cmpR (op_neD hu) (by exact (pe_heard T (Tb := TbL K) (is := []) (ps := []) (k := 6) (t := fun E => tCall (spReck K) [] E (tCons (tVar 8) (tCons (tC (.int 0)) tNil))) rfl TB rfl (List.mem_cons_self ..) (hu_law T) hr8 (lamD_by (N := N_law) (sc := defScope s_law) (by decide +kernel)) (.none fun _ => rfl) rfl ⟨fun _ _ _ _ _ _ => rfl, fun _ z => by cases z⟩
            (fun A outer s H E f c' hr2 => pe_call GR hr2 rfl T.g_reckoner_of FR.kp bR .nil (passes_call lam_takes (fun _ _ _ _ h => h)) (pa_cons (pv 8) (pa_cons pe_int pa_nil)))))
          (pe_tup (pa_cons pe_str (pa_cons pe_str pa_nil))) (by rfl)) (pss_one (ps_ret pe_bl)) pss_nil)
      (pss_one (ps_ret (pe_call GB hr rfl T.g__law_bounds_right FB.kp bB .nil pass0 (pa_cons (pv 1) pa_nil)))))) pss_nil)
    (pss_one (ps_ret pe_bl))))), ?_⟩
  obtain ⟨a, ns, rfl, ha, htb, q⟩ := h
  refine ⟨_, rfl, a, ns, rfl, ha, fun H1 b e1 _ hb => ?_⟩
  have t1 := tabs_ex htb e1
  refine ⟨4, rfl, by decide, by decide, ?_⟩
  refine for_range (lo := 0) (n := 4) (fun i σ' H' => (∃ v0 v2 v3 v4 v5 v6 v7 v8, σ' = [v0, some (.ref b), v2, v3, v4, v5, v6, v7, v8]) ∧ BSt K H' b (20 * (i : Int)) ∧ Tabs (TbL K) H') ⟨⟨_, _, _, _, _, _, _, _, rfl⟩, hb.mono (by simp), t1⟩ (fun i σ' H' hi z => ?_) (fun σ' H' z => ?_)
  · obtain ⟨⟨v0, v2, v3, v4, v5, v6, v7, v8, rfl⟩, z1, z2⟩ := z
    refine hA _ b v0 _ v3 v4 v5 v6 v7 v8 _ H' z1 (by omega) z2 fun H2 v3' v4' v5' v6' v7' y1 y2 => ⟨⟨_, _, _, _, _, _, _, _, rfl⟩, ?_, y2⟩
    have : 20 * ((i + 1 : Nat) : Int) = 20 * (i : Int) + 20 := by omega
    rw [this]
    exact y1
  · obtain ⟨⟨v0, v2, v3, v4, v5, v6, v7, v8, rfl⟩, z1, z2⟩ := z
    refine ⟨_, rfl, b, 6, _, rfl, by decide, by decide, z1, by decide, fun r H2 r0 r6 b2 o2 => ?_⟩
    have t2 := tabs_b z2 o2 z1.some
    refine ⟨rfl, _, rfl, iteB (fun _ => ?_) fun _ => q _⟩
    refine ⟨_, rfl, b, _, "turn", 1501, 12, rfl, .inl rfl, by decide, by decide, by decide, by decide, b2, by decide, fun m H3 c c0 c9 b3 o3 hm => ?_⟩
    have t3 := tabs_b t2 o3 b2.some
    refine ⟨t3, fun H4 eN t4 E' Q' hnon hexc => ?_⟩
    have hm4 := hm.exL (ExL.ofN eN) b3.some
    have b4 := b3.exN eN
    refine ⟨_, rfl, .ref m, .int 0, rfl, .inr ⟨m, 12, _, rfl, hm4, .inl ⟨0, rfl⟩, .inr ⟨0, rfl, by decide, by decide, .inl ⟨rfl, th_part hexc (n := "Misfit") (by decide) fun p H5 e5 hp => ?_⟩⟩⟩⟩
    rw [w3] at hp
    refine ⟨szL (by simp), fun p2 hp2 => ?_⟩
    have e6 : Ex H5 (upd H5 p2 (.tup [.str "misfit", .str "mouse"])) := Ex.new hp2
    have k2 : upd H5 p2 (.tup [.str "misfit", .str "mouse"]) p2 = some (.tup [.str "misfit", .str "mouse"]) := upd_same
    generalize upd H5 p2 (.tup [.str "misfit", .str "mouse"]) = H6 at e6 k2
    have k1 := e6 _ _ hp
    have pr : ∀ {a : Addr} {u v : Str}, H6 a = some (.tup [.str u, .str v]) → Dp K H6 (.ref a) (.tuple [.str u, .str v]) := fun h => .tup (.of h) (.cons (.str _) (.cons (.str _) .nil))
    refine ⟨.tuple [.str "misfit", .str "mouse"], .tuple [.str "misfit", .str "mouse"], pr k1, pr k2, by decide +kernel, by decide +kernel, _, rfl, iteB (fun z => absurd z (by decide +kernel)) fun _ => ?_⟩
    exact ⟨_, rfl, b, _, rfl, (b4.ex e5).ex e6, by decide, tabs_ex (tabs_ex t4 e5) e6, q⟩
end K72

set_option Elab.async false
set_option linter.all false
set_option maxRecDepth 100000
set_option maxHeartbeats 4000000
namespace K72
open PySem PySem.Spec PyProof.Rows L2 Fs LamX
theorem law_at {w : World} {K : PySem.W.Frag} {h : Heap} {mg : Str → Option Value} {fa' : Addr} (X : K.In h) (G : h.Ns mainGlobals mg) (hfa : mg ("law" : Str) = some (.ref fa')) (c : Fs.SaysF fa fn ts es tf ex fileF w h K) :
    LawAtS PySem.Challenge.rw_fourstones_k72_leading_back_refused w K CX0 10 63 "_law_script" mg fa' h := by
  have T : Tx w K mg := ⟨h, X, G, c⟩
  obtain ⟨fd, F⟩ := T.F_law
  have e := hfa.symm.trans (He.glo_ok X G (c.t.d.fact 25 (f := .glo "law") rfl))
  cases e
  have b := FunD.bindsA (ps := ["_law_script"]) F fun _ _ _ _ _ _ us hl => match us, hl with | [_], _ => rfl
  refine ⟨fd, tf.map (He.cT K), spLaw K, fun p hp => ?_, fun p hp => ?_, fun p hp => ?_, fun s v => b s [v] rfl, fun H a ns hl _ ht hS => ⟨a, ns, rfl, hS, ?_, fun _ => rfl⟩, fun base KB GB hB => ?_⟩
  · obtain ⟨q, hq, rfl⟩ := List.mem_map.mp hp
    exact c.empty q hq
  · obtain ⟨q, hq, rfl⟩ := List.mem_map.mp hp
    exact c.out q hq
  · obtain ⟨q, hq, rfl⟩ := List.mem_map.mp hp
    exact PySem.W.codeHd_of_K X (c.hd q hq)
  · intro p hp
    rcases List.mem_cons.mp hp with h | h
    · subst h
      exact TabS.nil (ht (cL K) (List.mem_map.mpr ⟨("law", none), by simp [tf], rfl⟩))
    · rcases List.mem_cons.mp h with h | h
      · subst h
        exact TabS.nil (ht (cB K) (List.mem_map.mpr ⟨("_law_bounds_right", none), by simp [tf], rfl⟩))
      · cases h
  · exact ok_law T (hB (cL K) (List.mem_map.mpr ⟨("law", none), by simp [tf], rfl⟩)) (hB (cB K) (List.mem_map.mpr ⟨("_law_bounds_right", none), by simp [tf], rfl⟩)) F
end K72
open PySem PySem.W PySem.Calls PyProof.Rows
theorem PySem.Challenge.cw_fourstones_k72_leading_back_refused_holds : PySem.Challenge.rw_fourstones_k72_leading_back_refused.Holds := by
  w_on; o_law
  refine HandSHeadRun.head_any (r := OpenLaw.row PySem.Challenge.rw_fourstones_k72_leading_back_refused) (q := view (OpenLaw.row PySem.Challenge.rw_fourstones_k72_leading_back_refused).prog [66]) (H := K72.hk) (ob := K72.ob) (M := 6000) (loose := K72.loose) (d := HandSHeadRun.topDef (OpenLaw.row PySem.Challenge.rw_fourstones_k72_leading_back_refused).prog 66) (kwd := []) K72.ob_eq
    (by kernel_rfl) (fun s => by kernel_rfl) K72.run (by kernel_rfl) (by kernel_rfl) (by kernel_rfl) (by rfl) (by first | assumption | decide +kernel) (by decide +kernel) ⟨rfl, rfl, rfl, rfl, rfl, by decide +kernel⟩ ?hw ?hc
  case hw => w_witness2
  case hc =>
    refine LamX.walk_ofTsE (l := PySem.Challenge.rw_fourstones_k72_leading_back_refused) (n := 63) (k := 10) (x := "_law_script") (CX := fun _ => L2.CX0) rfl (by decide) (by kernel_rfl) ⟨rfl, by decide, by decide⟩ ?F (fun _ _ _ _ _ z => z)
    intro w mg fa h Y G hmg0
    obtain ⟨K, KX, c⟩ := Y
    have hmg : mg ("law" : PySem.Str) = some (.ref fa) := by
      have e : (HandSHeadRun.topDef (OpenLaw.row PySem.Challenge.rw_fourstones_k72_leading_back_refused).prog 66).name = ("law" : PySem.Str) := by kernel_rfl
      rw [← e]
      exact hmg0
    exact ⟨K, KX, K72.law_at KX G hmg c⟩
