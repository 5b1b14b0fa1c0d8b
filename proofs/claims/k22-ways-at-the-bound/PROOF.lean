import PyProof.Rows.All
import Wide.All
import OpenK.AllK
import Wide.FinOn
import HandS.ForMost
import HandS.ForExc
import HandS.Walk
import HandS.Wide
import HandS.IsInst
import HandS.Deep
import HandS.Zip
import HandS.TupAny
import HandS.TupMul
import HandS.Style
import KE.KDictKeyed
import KE.KeyNested
import HandS.ExcCtx
import HandS.HotCalls
import HandS.ExcIs
import HandS.ExcOwn
import HandS.WordsExc
import HandS.Nested
import HandS.EndTab
import HandS.DictComp
import HandS.TupLe
import HandS.Set
import HandS.SetFor
import HandS.Strs
import KE.SortData
import KE.SortKeyHeap
import KE.KLam
import KE.KNestM
import HandS.Conv
import HandS.Text
import KE.GoesMore
import KE.GoesEnum
import KE.KDictSum
import KE.KDictList
import KE.KDictWalk
import PySem.Challenge.RW_tellweight_k22_ways_at_the_bound
set_option Elab.async false
set_option linter.all false
set_option maxRecDepth 100000
set_option maxHeartbeats 4000000
/-! PL, part a: data over the hand layer. A value of the heap stands for a datum; an expression is a function from a list of data to a datum. -/
namespace PL
open PySem L2

/-! a thing that is never unfolded but by its own row -/
theorem ex_shut {α : Sort u} (a : α) : ∃ x : α, x = a := ⟨a, rfl⟩
noncomputable def shut {α : Sort u} (a : α) : α := Classical.choose (ex_shut a)
theorem shut_eq {α : Sort u} (a : α) : shut a = a := Classical.choose_spec (ex_shut a)

/-- a reckoning: a datum, an error of the class number c, or nothing is said -/
inductive R (α : Type) where
  | ok (a : α)
  | ex (c : Nat)
  | no
namespace R
def bind {α β : Type} : R α → (α → R β) → R β
  | .ok a, k => k a
  | .ex c, _ => .ex c
  | .no, _ => .no
@[simp] theorem bind_ok {α β : Type} (a : α) (k : α → R β) : (R.ok a).bind k = k a := rfl
@[simp] theorem bind_ex {α β : Type} (c : Nat) (k : α → R β) : (R.ex c : R α).bind k = .ex c := rfl
@[simp] theorem bind_no {α β : Type} (k : α → R β) : (R.no : R α).bind k = .no := rfl
end R

/-! ### what stays of the tracked heap: all but code tables, which may grow -/
/-- the qualified name of the lambda at a place of the law's text -/
noncomputable def nmAt : Nat → Nat → Str := shut fun _ _ => "order_of.<locals>.<lambda>"
/-- the code tables that the law's defs write -/
noncomputable def tabs : List Addr := shut []
structure Same (G H : Hp) : Prop where
  ap : ∀ b o, G b = some o → (∀ ps, o ≠ .tbl ps) → H b = some o
  tb : ∀ b ps, G b = some (.tbl ps) → ∃ ps', H b = some (.tbl ps')
  tx : ∀ P, NdefX.TabN G P nmAt → NdefX.TabN H P nmAt
theorem Same.refl (H : Hp) : Same H H := ⟨fun _ _ h _ => h, fun _ ps h => ⟨ps, h⟩, fun _ h => h⟩
theorem Same.trans {H H1 H2 : Hp} (a : Same H H1) (b : Same H1 H2) : Same H H2 := ⟨fun c o h n => b.ap c o (a.ap c o h n) n, fun c ps h => by
  obtain ⟨ps', h'⟩ := a.tb c ps h
  exact b.tb c ps' h', fun P h => b.tx P (a.tx P h)⟩
theorem Same.there {H H' : Hp} (e : Same H H') {l : Addr} (h : H l ≠ none) : H' l ≠ none := by
  cases q : H l with
  | none => exact absurd q h
  | some o =>
    by_cases z : ∃ ps, o = .tbl ps
    · obtain ⟨ps, rfl⟩ := z
      obtain ⟨ps', h'⟩ := e.tb l ps q
      rw [h']
      simp
    · rw [e.ap l o q fun ps k => z ⟨ps, k⟩]
      simp
theorem Same.free {H H' : Hp} (e : Same H H') {l : Addr} (h : H' l = none) : H l = none := by
  cases q : H l with
  | none => rfl
  | some o => exact absurd h (e.there (by rw [q]; simp))
theorem Same.lst {H H' : Hp} (e : Same H H') {l : Addr} {xs : List V} (h : H l = some (.lst xs)) : H' l = some (.lst xs) := e.ap _ _ h fun _ z => by cases z
theorem Same.dK {H H' : Hp} (e : Same H H') {l : Addr} {xs : List (Key × V)} (h : H l = some (.dK xs)) : H' l = some (.dK xs) := e.ap _ _ h fun _ z => by cases z
/-- all of it stays -/
theorem Same.all {H H' : Hp} (e : ∀ b o, H b = some o → H' b = some o) : Same H H' := ⟨fun b o h _ => e b o h, fun b ps h => ⟨ps, e b _ h⟩, fun _ t => t.ext e⟩

def kD : Key → PyData
  | .inl i => .int i
  | .inr x => .str x
/-- a list that is read: tracked, or a plain one of the written part -/
def LsL (K : PySem.W.Frag) (G : Hp) (a : Addr) (xs : List V) : Prop :=
  Rd G a (.lst xs) ∨ ∃ (its : List Value) (n : Nat), K.lookup a = some { cls := .type "list", data := .seq its.toArray n } ∧ its.length ≤ sizeLine ∧ Vals xs its
theorem LsL.sq {K : PySem.W.Frag} {G : Hp} {a : Addr} {xs : List V} (h : LsL K G a xs) : SqL K G a xs := by
  rcases h with h | ⟨its, n, h1, h2, h3⟩
  · exact .inl h
  · exact .inr ⟨_, its.toArray, n, h1, rfl, rfl, rfl, by rw [List.size_toArray]; exact h2, by simpa using h3⟩
theorem LsL.of {K : PySem.W.Frag} {G : Hp} {a : Addr} {xs : List V} (h : G a = some (.lst xs)) : LsL K G a xs := .inl (.inl h)
/-! ### dicts whose keys are tuples of ints, nested -/
mutual
def nkOf : PyData → Option NestedKey
  | .int i => some (.num i)
  | .tuple ds => (nkAll ds).map .tup
  | _ => none
def nkAll : List PyData → Option (List NestedKey)
  | [] => some []
  | d :: ds => match nkOf d, nkAll ds with
    | some k, some ks => some (k :: ks)
    | _, _ => none
end
abbrev NK := NestedKey × Addr × V
abbrev NKV : List NK → List (NestedKey × Addr × Value) → Prop := Paired fun p q => p.1 = q.1 ∧ p.2.1 = q.2.1 ∧ RelV p.2.2 q.2.2
/-- the dict at a: its keys, where they lie, its values -/
def DnO (a : Addr) (ks : List NK) : HO := .ext fun h => ks.length ≤ sizeLine ∧ (a == sysModules) = false ∧ ∃ xs, NKV ks xs ∧ ∃ o es ep, h.get? a = some o ∧ o.ExactDict ∧ o.data = .dict es ep ∧ (∀ w : World, es.toList = xs.map fun x => (⟨x.1.hash w, .ref x.2.1, x.2.2⟩ : DictEntry)) ∧ (xs.map (·.1)).Nodup
mutual
/-- the value stands for the datum, in the heap G -/
inductive Rep (K : PySem.W.Frag) (G : Hp) : V → PyData → Prop
  | non : Rep K G .non .none
  | bl (b : Bool) : Rep K G (.bl b) (.bool b)
  | int (i : Int) : Rep K G (.int i) (.int i)
  | str (x : Str) : Rep K G (.str x) (.str x)
  | lst {a : Addr} {xs : List V} {ds : List PyData} : LsL K G a xs → RepA K G xs ds → Rep K G (.ref a) (.list ds)
  | tup {a : Addr} {xs : List V} {ds : List PyData} : SqT K G a xs → RepA K G xs ds → Rep K G (.ref a) (.tuple ds)
  | dct {a : Addr} {kvs : List (Key × V)} {ds : List (PyData × PyData)} : G a = some (.dK kvs) → (kvs.map (·.1)).Nodup → RepK K G kvs ds → Rep K G (.ref a) (.dict ds)
  | dcn {a : Addr} {ks : List NK} {ds : List (PyData × PyData)} : G a = some (DnO a ks) → RepN K G ks ds → Rep K G (.ref a) (.dict ((.none, .none) :: ds))
inductive RepA (K : PySem.W.Frag) (G : Hp) : List V → List PyData → Prop
  | nil : RepA K G [] []
  | cons {v : V} {vs : List V} {d : PyData} {ds : List PyData} : Rep K G v d → RepA K G vs ds → RepA K G (v :: vs) (d :: ds)
inductive RepK (K : PySem.W.Frag) (G : Hp) : List (Key × V) → List (PyData × PyData) → Prop
  | nil : RepK K G [] []
  | cons {k : Key} {v : V} {kvs : List (Key × V)} {d : PyData} {ds : List (PyData × PyData)} : Rep K G v d → RepK K G kvs ds → RepK K G ((k, v) :: kvs) ((kD k, d) :: ds)
inductive RepN (K : PySem.W.Frag) (G : Hp) : List NK → List (PyData × PyData) → Prop
  | nil : RepN K G [] []
  | cons {k : NestedKey} {q : Addr} {v : V} {ks : List NK} {dk d : PyData} {ds : List (PyData × PyData)} : nkOf dk = some k → k.depth ≤ 8 → Rep K G (.ref q) dk → Rep K G v d → RepN K G ks ds → RepN K G ((k, q, v) :: ks) ((dk, d) :: ds)
end

theorem rd_same {G G' : Hp} (e : Same G G') {a : Addr} {u : HO} (h : Rd G a u) (hn : ∀ ps, u ≠ .tbl ps := by intro _ z; cases z) : Rd G' a u := by
  rcases h with h | ⟨o, h⟩
  · exact .inl (e.ap _ _ h hn)
  · exact .inr ⟨o, e.ap _ _ h fun _ z => by cases z⟩
theorem ls_same {K : PySem.W.Frag} {G G' : Hp} (e : Same G G') {a : Addr} {xs : List V} (h : LsL K G a xs) : LsL K G' a xs := by
  rcases h with h | h
  · exact .inl (rd_same e h)
  · exact .inr h
theorem sqT_same {K : PySem.W.Frag} {G G' : Hp} (e : Same G G') {a : Addr} {xs : List V} (h : SqT K G a xs) : SqT K G' a xs := by
  rcases h with h | h
  · exact .inl (rd_same e h)
  · exact .inr h
section
variable {K : PySem.W.Frag} {G G' : Hp} (e : Same G G')
include e
mutual
theorem Rep.mono : ∀ {v : V} {d : PyData}, Rep K G v d → Rep K G' v d
  | _, _, .non => .non
  | _, _, .bl b => .bl b
  | _, _, .int i => .int i
  | _, _, .str x => .str x
  | _, _, .lst h r => .lst (ls_same e h) (RepA.mono r)
  | _, _, .tup h r => .tup (sqT_same e h) (RepA.mono r)
  | _, _, .dct h n r => .dct (e.ap _ _ h fun _ z => by cases z) n (RepK.mono r)
  | _, _, .dcn h r => .dcn (e.ap _ _ h fun _ z => by unfold DnO at z; cases z) (RepN.mono r)
theorem RepA.mono : ∀ {vs : List V} {ds : List PyData}, RepA K G vs ds → RepA K G' vs ds
  | _, _, .nil => .nil
  | _, _, .cons h r => .cons (Rep.mono h) (RepA.mono r)
theorem RepK.mono : ∀ {vs : List (Key × V)} {ds : List (PyData × PyData)}, RepK K G vs ds → RepK K G' vs ds
  | _, _, .nil => .nil
  | _, _, .cons h r => .cons (Rep.mono h) (RepK.mono r)
theorem RepN.mono : ∀ {vs : List NK} {ds : List (PyData × PyData)}, RepN K G vs ds → RepN K G' vs ds
  | _, _, .nil => .nil
  | _, _, .cons n dp q h r => .cons n dp (Rep.mono q) (Rep.mono h) (RepN.mono r)
end
end
section
variable {K : PySem.W.Frag} {G : Hp}
theorem RepA.length : ∀ {vs : List V} {ds : List PyData}, RepA K G vs ds → vs.length = ds.length
  | _, _, .nil => rfl
  | _, _, .cons _ r => by rw [List.length_cons, List.length_cons, RepA.length r]
theorem RepA.get : ∀ {vs : List V} {ds : List PyData} {i : Nat} {d : PyData}, RepA K G vs ds → ds[i]? = some d → ∃ v, vs[i]? = some v ∧ Rep K G v d
  | _, _, _, _, .nil, e => by simp at e
  | _, _, 0, _, .cons r _, e => by simp at e; subst e; exact ⟨_, rfl, r⟩
  | _, _, i + 1, d, .cons _ t, e => by
    obtain ⟨v, h1, h2⟩ := RepA.get (i := i) (d := d) t (by simpa using e)
    exact ⟨v, by simpa using h1, h2⟩
theorem RepA.append : ∀ {vs ws : List V} {ds es : List PyData}, RepA K G vs ds → RepA K G ws es → RepA K G (vs ++ ws) (ds ++ es)
  | _, _, _, _, .nil, s => s
  | _, _, _, _, .cons r t, s => .cons r (RepA.append t s)
theorem RepA.take : ∀ {vs : List V} {ds : List PyData} (n : Nat), RepA K G vs ds → RepA K G (vs.take n) (ds.take n)
  | _, _, 0, _ => .nil
  | _, _, _ + 1, .nil => .nil
  | _, _, n + 1, .cons r t => .cons r (RepA.take n t)
theorem RepA.drop : ∀ {vs : List V} {ds : List PyData} (n : Nat), RepA K G vs ds → RepA K G (vs.drop n) (ds.drop n)
  | _, _, 0, r => r
  | _, _, _ + 1, .nil => .nil
  | _, _, n + 1, .cons _ t => RepA.drop n t
theorem RepA.set {v : V} {d : PyData} (r : Rep K G v d) : ∀ {vs : List V} {ds : List PyData} (i : Nat), RepA K G vs ds → RepA K G (vs.set i v) (ds.set i d)
  | _, _, _, .nil => .nil
  | _, _, 0, .cons _ t => .cons r t
  | _, _, i + 1, .cons q t => .cons q (RepA.set r i t)
theorem RepA.rep {vs : List V} {ds : List PyData} (h : RepA K G vs ds) : ∀ k : Nat, RepA K G (List.replicate k vs).flatten (List.replicate k ds).flatten
  | 0 => .nil
  | k + 1 => by
    rw [List.replicate_succ, List.replicate_succ, List.flatten_cons, List.flatten_cons]
    exact h.append (RepA.rep h k)
theorem RepA.ints : ∀ {vs : List V} {ns : List Int}, RepA K G vs (ns.map PyData.int) → vs = ns.map V.int
  | [], [], _ => rfl
  | v :: vs, n :: ns, h => by
    rw [List.map_cons] at h
    cases h with
    | cons h r => cases h; rw [RepA.ints r]; rfl
theorem RepA.bls : ∀ {vs : List V} {ns : List Bool}, RepA K G vs (ns.map PyData.bool) → vs = ns.map V.bl
  | [], [], _ => rfl
  | v :: vs, n :: ns, h => by
    rw [List.map_cons] at h
    cases h with
    | cons h r => cases h; rw [RepA.bls r]; rfl
theorem repA_ints : ∀ ns : List Int, RepA K G (ns.map V.int) (ns.map PyData.int)
  | [] => .nil
  | n :: ns => .cons (.int n) (repA_ints ns)
mutual
theorem Rep.dp : ∀ {v : V} {d : PyData}, Rep K G v d → d.canLay0 = true → Dp K G v d
  | _, _, .non, _ => .non
  | _, _, .bl b, _ => .bl b
  | _, _, .int i, _ => .int i
  | _, _, .str x, _ => .str x
  | _, _, .lst h r, c => .lst h.sq (RepA.dp r (by simpa [PyData.canLay0] using c))
  | _, _, .tup h r, c => .tup h (RepA.dp r (by simpa [PyData.canLay0] using c))
  | _, _, .dct h n r, c => by simp [PyData.canLay0] at c
  | _, _, .dcn h r, c => by simp [PyData.canLay0] at c
theorem RepA.dp : ∀ {vs : List V} {ds : List PyData}, RepA K G vs ds → PyData.canLayAll0 ds = true → DpAll K G vs ds
  | _, _, .nil, _ => .nil
  | _, _, .cons h r, c => by
    unfold PyData.canLayAll0 at c
    rw [Bool.and_eq_true] at c
    exact .cons (Rep.dp h c.1) (RepA.dp r c.2)
end
end

/-- the view G and the heap H grow: what is new in the view is new in the heap -/
structure Ext (G H G' H' : Hp) : Prop where
  g : Same G G'
  h : Same H H'
  i : Same G' H'
  f : ∀ b, G' b ≠ none → G b = none → H b = none
theorem Ext.refl {G H : Hp} (i : Same G H) : Ext G H G H := ⟨Same.refl _, Same.refl _, i, fun _ h1 h2 => absurd h2 h1⟩
theorem Ext.trans {G H G1 H1 G2 H2 : Hp} (a : Ext G H G1 H1) (b : Ext G1 H1 G2 H2) : Ext G H G2 H2 :=
  ⟨a.g.trans b.g, a.h.trans b.h, b.i, fun c h1 h2 => by
    cases q : G1 c with
    | none => exact a.h.free (b.f c h1 q)
    | some o => exact a.f c (by rw [q]; simp) h2⟩
/-- the heap alone -/
theorem Ext.heap {G H H' : Hp} (i : Same G H) (h : Same H H') : Ext G H G H' := ⟨Same.refl _, h, i.trans h, fun _ h1 h2 => absurd h2 h1⟩
theorem same_new {H : Hp} {p : Addr} {o : HO} (n : H p = none) : Same H (upd H p o) := .all fun b u e => by
  rw [upd_ne (ne_of_none e n)]
  exact e
theorem same_upd {G H : Hp} {p : Addr} {o : HO} (i : Same G H) (n : H p = none) (hk : ∀ q, o ≠ LamX.CodeO p q) : Same (upd G p o) (upd H p o) := by
  have a : ∀ b u, upd G p o b = some u → (∀ ps, u ≠ .tbl ps) → upd H p o b = some u := fun b u e k => by
    by_cases hb : b = p
    · subst hb; rw [upd_same] at e ⊢; exact e
    · rw [upd_ne hb] at e ⊢; exact i.ap b u e k
  refine ⟨a, fun b ps e => ?_, fun P ⟨ps, h1, h2, h3⟩ => ?_⟩
  · by_cases hb : b = p
    · subst hb; rw [upd_same] at e ⊢; exact ⟨ps, e⟩
    · rw [upd_ne hb] at e ⊢; exact i.tb b ps e
  · by_cases hb : P = p
    · subst hb
      rw [upd_same] at h1
      refine ⟨ps, by rw [upd_same]; exact h1, h2, fun pos cv hc => ?_⟩
      obtain ⟨c, e1, e2⟩ := h3 pos cv hc
      exact ⟨c, e1, a _ _ e2 LamX.codeO_ne⟩
    · have hg : NdefX.TabN G P nmAt := by
        refine ⟨ps, by rwa [upd_ne hb] at h1, h2, fun pos cv hc => ?_⟩
        obtain ⟨c, e1, e2⟩ := h3 pos cv hc
        by_cases hc : c = p
        · subst hc
          rw [upd_same] at e2
          exact absurd (Option.some.inj e2) (hk _)
        · rw [upd_ne hc] at e2
          exact ⟨c, e1, e2⟩
      obtain ⟨ps', k1, k2, k3⟩ := i.tx P hg
      refine ⟨ps', by rw [upd_ne hb]; exact k1, k2, fun pos cv hc => ?_⟩
      obtain ⟨c, e1, e2⟩ := k3 pos cv hc
      by_cases hc : c = p
      · subst hc
        rw [n] at e2
        cases e2
      · exact ⟨c, e1, by rw [upd_ne hc]; exact e2⟩
/-- neither a table nor a code object -/
def Tame (u : HO) : Prop := (∀ ps, u ≠ .tbl ps) ∧ ∀ c q, u ≠ LamX.CodeO c q
theorem tame_lst (xs : List V) : Tame (.lst xs) := ⟨(fun _ z => by cases z), (fun _ _ z => by unfold LamX.CodeO at z; cases z)⟩
theorem tame_dK (xs : List (Key × V)) : Tame (.dK xs) := ⟨(fun _ z => by cases z), (fun _ _ z => by unfold LamX.CodeO at z; cases z)⟩
theorem tame_Dn (a : Addr) (ks : List NK) : Tame (DnO a ks) := by
  refine ⟨(fun _ z => by unfold DnO at z; cases z), fun c q z => ?_⟩
  unfold DnO LamX.CodeO at z
  have z := HO.ext.inj z
  let ob : Obj := { cls := .none, data := .fields #[.none, .str q 0] }
  let h : Heap := { objs := Array.replicate (c + 1) ob }
  have gc : h.get? c = some ob := by
    unfold Heap.get?
    have : h.objs[c]? = some ob := by show (Array.replicate (c + 1) ob)[c]? = some ob; simp
    rw [this]
  have f := congrFun z h
  have hc : ∃ (oc : Obj) (vs : Array Value) (t : Tok), h.get? c = some oc ∧ oc.data = .fields vs ∧ vs[1]? = some (.str q t) := ⟨ob, _, 0, gc, rfl, rfl⟩
  rw [← f] at hc
  obtain ⟨_, _, xs, _, o, es, ep, h1, _, h3, _⟩ := hc
  unfold Heap.get? at h1
  have ha : h.objs[a]? = some ob ∨ h.objs[a]? = none := by
    show (Array.replicate (c + 1) ob)[a]? = some ob ∨ (Array.replicate (c + 1) ob)[a]? = none
    rw [Array.getElem?_replicate]
    split
    · exact .inl rfl
    · exact .inr rfl
  rcases ha with ha | ha
  · rw [ha] at h1
    cases h1
    cases h3
  · rw [ha] at h1
    cases h1
/-- a tame thing outside the view is written -/
theorem same_put {G H : Hp} {l : Addr} {u o : HO} (e : Same G H) (n : G l = none) (hl : H l = some u) (hu : Tame u) : Same G (upd H l o) := by
  have ne : ∀ b v, G b = some v → b ≠ l := fun b v q z => by rw [z, n] at q; cases q
  refine ⟨fun b v q k => by rw [upd_ne (ne b v q)]; exact e.ap b v q k, fun b ps q => by rw [upd_ne (ne b _ q)]; exact e.tb b ps q, fun P t => ?_⟩
  obtain ⟨ps, h1, h2, h3⟩ := e.tx P t
  have nP : P ≠ l := fun z => by subst z; rw [hl] at h1; exact hu.1 _ (Option.some.inj h1)
  refine ⟨ps, by rw [upd_ne nP]; exact h1, h2, fun pos cv hc => ?_⟩
  obtain ⟨c, e1, e2⟩ := h3 pos cv hc
  have nc : c ≠ l := fun z => by subst z; rw [hl] at e2; exact hu.2 _ _ (Option.some.inj e2)
  exact ⟨c, e1, by rw [upd_ne nc]; exact e2⟩
/-- a tame thing comes into the view -/
theorem same_in {G H : Hp} {l : Addr} {u : HO} (e : Same G H) (hl : H l = some u) (hu : Tame u) : Same (upd G l u) H := by
  have a : ∀ b v, upd G l u b = some v → (∀ ps, v ≠ .tbl ps) → H b = some v := fun b v q k => by
    by_cases hb : b = l
    · subst hb; rw [upd_same] at q; cases q; exact hl
    · rw [upd_ne hb] at q; exact e.ap b v q k
  refine ⟨a, fun b ps q => ?_, fun P ⟨ps, h1, h2, h3⟩ => e.tx P ⟨ps, ?_, h2, fun pos cv hc => ?_⟩⟩
  · by_cases hb : b = l
    · subst hb; rw [upd_same] at q; exact absurd (Option.some.inj q) (hu.1 _)
    · rw [upd_ne hb] at q; exact e.tb b ps q
  · by_cases hb : P = l
    · subst hb; rw [upd_same] at h1; exact absurd (Option.some.inj h1) (hu.1 _)
    · rwa [upd_ne hb] at h1
  · obtain ⟨c, e1, e2⟩ := h3 pos cv hc
    by_cases hb : c = l
    · subst hb; rw [upd_same] at e2; exact absurd (Option.some.inj e2) (hu.2 _ _)
    · rw [upd_ne hb] at e2; exact ⟨c, e1, e2⟩
/-- a new object, in the view too -/
theorem Ext.new {G H : Hp} {p : Addr} {o : HO} (i : Same G H) (n : H p = none) (hk : ∀ q, o ≠ LamX.CodeO p q := by intro _ z; unfold LamX.CodeO at z; cases z) : Ext G H (upd G p o) (upd H p o) := by
  have gn : G p = none := i.free n
  refine ⟨same_new gn, same_new n, same_upd i n hk, fun b h1 h2 => ?_⟩
  · by_cases hb : b = p
    · subst hb; exact n
    · rw [upd_ne hb] at h1; exact absurd h2 h1

/-- the tables are tables of the law's lambdas -/
def Tbs (G : Hp) : Prop := ∀ P ∈ tabs, NdefX.TabN G P nmAt
theorem Tbs.mono {G G' : Hp} (t : Tbs G) (e : Same G G') : Tbs G' := fun P h => e.tx P (t P h)
/-- the slots hold what env says -/
structure EnvR (K : PySem.W.Frag) (G : Hp) (σ : L2.St) (env : List (Option PyData)) : Prop where
  tb : Tbs G
  len : env.length ≤ σ.length
  at' : ∀ (i : Nat) (d : PyData), env[i]? = some (some d) → ∃ v, σ[i]? = some (some v) ∧ Rep K G v d
theorem EnvR.mono {K : PySem.W.Frag} {G G' : Hp} {σ : L2.St} {env : List (Option PyData)} (h : EnvR K G σ env) (e : Same G G') : EnvR K G' σ env := ⟨h.tb.mono e, h.len, fun i d q =>
  let ⟨v, h1, h2⟩ := h.at' i d q
  ⟨v, h1, h2.mono e⟩⟩

/-! ### expressions -/
abbrev EF := List (Option PyData) → R PyData
def Post (K : PySem.W.Frag) (ec : Nat → Addr) (W : WX) (σ : L2.St) (G H : Hp) (Q : VK) : R PyData → Prop
  | .ok d => ∀ v G' H', Ext G H G' H' → Rep K G' v d → Q v H'
  | .ex c => ∀ H', Same H H' → W (.ref (ec c)) none σ H'
  | .no => False
def tD (K : PySem.W.Frag) (ec : Nat → Addr) (W : WX) (f : EF) : TE := fun σ H Q => ∃ G env, Same G H ∧ EnvR K G σ env ∧ Post K ec W σ G H Q (f env)
section
variable {K : PySem.W.Frag} {ec : Nat → Addr} {W : WX} {σ : L2.St} {G H G' H' : Hp} {Q Q' : VK}
theorem Post.mono {r : R PyData} (e : Ext G H G' H') (h : Post K ec W σ G H Q r) : Post K ec W σ G' H' Q r := by
  cases r with
  | ok d => exact fun v G2 H2 e2 p => h v G2 H2 (e.trans e2) p
  | ex c => exact fun H2 s2 => h H2 (e.h.trans s2)
  | no => exact h
theorem Post.bind {r : R PyData} {k : PyData → R PyData} (h : Post K ec W σ G H Q (r.bind k)) (hk : ∀ v d G' H', r = .ok d → Ext G H G' H' → Rep K G' v d → Post K ec W σ G' H' Q (k d) → Q' v H') : Post K ec W σ G H Q' r := by
  cases r with
  | ok d => exact fun v G' H' e p => hk v d G' H' rfl e p (Post.mono e h)
  | ex c => exact h
  | no => exact h
end
theorem PE_imp {X : Cx} {e : Expr} {t t' : TE} (h : PE X e t) (k : ∀ σ H Q, t' σ H Q → t σ H Q) : PE X e t' := ⟨fun pins s σ H Q I q => h.run pins s σ H Q I (k _ _ _ q)⟩
theorem PT_imp {X : Cx} {e : Expr} {t t' : TT} (h : PT X e t) (k : ∀ σ H Q, t' σ H Q → t σ H Q) : PT X e t' := ⟨fun pins s σ H Q I q => h.run pins s σ H Q I (k _ _ _ q)⟩
theorem PW_imp {X : Cx} {e : Expr} {t t' : TT} (h : PW X e t) (k : ∀ σ H Q, t' σ H Q → t σ H Q) : PW X e t' := ⟨fun wh pins s σ H Q I q => h.run wh pins s σ H Q I (k _ _ _ q)⟩
theorem PA_imp {X : Cx} {es : List Expr} {t t' : TA} (h : PA X es t) (k : ∀ σ H Q, t' σ H Q → t σ H Q) : PA X es t' := ⟨fun pos pins s σ H Q I q => h.run pos pins s σ H Q I (k _ _ _ q)⟩
theorem PS_imp {X : Cx} {e : Stmt} {t t' : TS} (h : PS X e t) (k : ∀ D σ H, t' D σ H → t D σ H) : PS X e t' := ⟨fun pins s σ H D I q => h.run pins s σ H D I (k _ _ _ q)⟩
theorem PSs_imp {X : Cx} {e : List Stmt} {t t' : TS} (h : PSs X e t) (k : ∀ D σ H, t' D σ H → t D σ H) : PSs X e t' := ⟨fun pins s σ H D I q => h.run pins s σ H D I (k _ _ _ q)⟩

def eVar (i : Nat) (env : List (Option PyData)) : R PyData := match env[i]? with
  | some (some d) => .ok d
  | _ => .no
def eC (d : PyData) (_ : List (Option PyData)) : R PyData := .ok d
def eBin (g : PyData → PyData → R PyData) (fa fb : EF) (env : List (Option PyData)) : R PyData := (fa env).bind fun x => (fb env).bind (g x)
def eUn (g : PyData → R PyData) (fa : EF) (env : List (Option PyData)) : R PyData := (fa env).bind g
/-- a rule for two values is a function on data -/
def OpD (K : PySem.W.Frag) (r : R2) (g : PyData → PyData → R PyData) : Prop :=
  ∀ (x y : V) (dx dy d : PyData) (G H : Hp) (Q : VK), Same G H → Rep K G x dx → Rep K G y dy → g dx dy = .ok d → (∀ v G' H', Ext G H G' H' → Rep K G' v d → Q v H') → r x y H Q
/-- it never tells an error -/
def NoEx (g : PyData → PyData → R PyData) : Prop := ∀ x y c, g x y ≠ .ex c
def UnD (K : PySem.W.Frag) (r : V → Hp → VK → Prop) (g : PyData → R PyData) : Prop :=
  ∀ (x : V) (dx d : PyData) (G H : Hp) (Q : VK), Same G H → Rep K G x dx → g dx = .ok d → (∀ v G' H', Ext G H G' H' → Rep K G' v d → Q v H') → r x H Q
section
variable {X : Cx} {ec : Nat → Addr} {W : WX} {a b e : Expr} {fa fb f : EF} {pos : Pos}
theorem se_var (i : Nat) {x : Str} (hN : X.N[i]? = some x := by rfl) (hv : Vis X.env.scope x := by first | exact Or.inl rfl | exact Or.inr (Or.inl rfl) | exact Or.inr (Or.inr rfl)) (hd : (x == ("__debug__" : Str)) = false := by decide)
    (hcd : (x == ("__classdict__" : Str)) = false := by decide) : PE X (.Name x pos) (tD X.K ec W (eVar i)) :=
  PE_imp (pe_var hN hv hd hcd) fun σ H Q ⟨G, env, s, E, p⟩ => by
    unfold eVar at p
    split at p
    · rename_i d h
      obtain ⟨v, h1, h2⟩ := E.at' i d h
      exact ⟨v, h1, p v G H (Ext.refl s) h2⟩
    · exact p.elim
theorem se_c {v : V} {d : PyData} (h : PE X e (tC v)) (r : ∀ G, Rep X.K G v d) : PE X e (tD X.K ec W (eC d)) :=
  PE_imp h fun σ H Q ⟨G, env, s, E, p⟩ => p v G H (Ext.refl s) (r G)
theorem se_int {i : Int} {j : Nat} : PE X (.Constant (.int i) j pos) (tD X.K ec W (eC (.int i))) := se_c pe_int fun _ => .int i
theorem se_str {x : Str} {j : Nat} : PE X (.Constant (.str x) j pos) (tD X.K ec W (eC (.str x))) := se_c pe_str fun _ => .str x
theorem se_bl {x : Bool} {j : Nat} : PE X (.Constant (.bool x) j pos) (tD X.K ec W (eC (.bool x))) := se_c pe_bl fun _ => .bl x
theorem se_non {j : Nat} : PE X (.Constant .none j pos) (tD X.K ec W (eC .none)) := se_c pe_non fun _ => .non
theorem tOp_D {K : PySem.W.Frag} {r : R2} {g : PyData → PyData → R PyData} (hg : OpD K r g) (hx : NoEx g) {σ : L2.St} {H : Hp} {Q : VK} : tD K ec W (eBin g fa fb) σ H Q → tOp r (tD K ec W fa) (tD K ec W fb) σ H Q := by
  rintro ⟨G, env, s, E, p⟩
  refine ⟨G, env, s, E, Post.bind p fun x dx G1 H1 _ e1 r1 p1 => ?_⟩
  refine ⟨G1, env, e1.i, E.mono e1.g, Post.bind p1 fun y dy G2 H2 _ e2 r2 p2 => ?_⟩
  cases q : g dx dy with
  | ok d => rw [q] at p2; exact hg x y dx dy d G2 H2 Q e2.i (r1.mono e2.g) r2 q p2
  | ex c => exact absurd q (hx dx dy c)
  | no => rw [q] at p2; exact p2.elim
theorem tUn_D {K : PySem.W.Frag} {r : V → Hp → VK → Prop} {g : PyData → R PyData} (hg : UnD K r g) (hx : ∀ x c, g x ≠ .ex c) {σ : L2.St} {H : Hp} {Q : VK} : tD K ec W (eUn g fa) σ H Q → tUn r (tD K ec W fa) σ H Q := by
  rintro ⟨G, env, s, E, p⟩
  refine ⟨G, env, s, E, Post.bind p fun x dx G1 H1 _ e1 r1 p1 => ?_⟩
  cases q : g dx with
  | ok d => rw [q] at p1; exact hg x dx d G1 H1 Q e1.i r1 q p1
  | ex c => exact absurd q (hx dx c)
  | no => rw [q] at p1; exact p1.elim
theorem se_bin {op : Operator} {r : R2} {g : PyData → PyData → R PyData} (ho : OpR X (binaryOp op) r) (hg : OpD X.K r g) (hx : NoEx g) (ha : PE X a (tD X.K ec W fa)) (hb : PE X b (tD X.K ec W fb)) :
    PE X (.BinOp a op b pos) (tD X.K ec W (eBin g fa fb)) := PE_imp (pe_op ho ha hb) fun _ _ _ => tOp_D hg hx
theorem se_cmp {op : CmpOp} {r : R2} {g : PyData → PyData → R PyData} (ho : OpR X (compareOp op) r) (hg : OpD X.K r g) (hx : NoEx g) (ha : PE X a (tD X.K ec W fa)) (hb : PE X b (tD X.K ec W fb)) (hm : behindInMarks op b = false) :
    PE X (.Compare a [op] [b] pos) (tD X.K ec W (eBin g fa fb)) := PE_imp (pe_cmpR ho ha hb hm) fun _ _ _ => tOp_D hg hx
theorem se_ix {r : R2} {g : PyData → PyData → R PyData} (ho : IxR X r) (hg : OpD X.K r g) (hx : NoEx g) (ha : PE X a (tD X.K ec W fa)) (hb : PE X b (tD X.K ec W fb)) (hs : PlainIx b) :
    PE X (.Subscript a b pos) (tD X.K ec W (eBin g fa fb)) := PE_imp (pe_ix ho ha hb hs) fun _ _ _ => tOp_D hg hx
theorem se_un {op : UnaryOp} {r : V → Hp → VK → Prop} {g : PyData → R PyData} (ho : UnR X (unaryOp op) r) (hg : UnD X.K r g) (hx : ∀ x c, g x ≠ .ex c) (ha : PE X a (tD X.K ec W fa)) :
    PE X (.UnaryOp op a pos) (tD X.K ec W (eUn g fa)) := PE_imp (pe_un ho ha) fun _ _ _ => tUn_D hg hx
end
end PL
/-! PL, part b: operators, tests, argument lists, displays. -/
namespace PL
open PySem PySem.Spec PyProof.Rows L2

/-! ### operators on data -/
noncomputable def szl : Nat := shut 1000000
theorem szl_eq : szl = 1000000 := shut_eq _
noncomputable def lim : Int := shut 1000000
theorem lim_eq : lim = 1000000 := shut_eq _
theorem szl_line {n : Nat} (h : n ≤ szl) : n ≤ sizeLine := Nat.le_trans h (by rw [szl_eq]; decide)
noncomputable def mulOk (a b : Int) : Bool := shut (decide (-(2 ^ 64) < a) && decide (a < 2 ^ 64) || (decide (-(2 ^ 64) < b) && decide (b < 2 ^ 64)) || decide (a.natAbs.log2 + b.natAbs.log2 < 1000000))
theorem mulOk_eq (a b : Int) : mulOk a b = (decide (-(2 ^ 64) < a) && decide (a < 2 ^ 64) || (decide (-(2 ^ 64) < b) && decide (b < 2 ^ 64)) || decide (a.natAbs.log2 + b.natAbs.log2 < 1000000)) := shut_eq _
theorem mulOk_ok {a b : Int} (h : mulOk a b = true) : IntMulOk a b := by
  rw [mulOk_eq] at h
  rw [Bool.or_eq_true, Bool.or_eq_true, Bool.and_eq_true, Bool.and_eq_true, decide_eq_true_eq, decide_eq_true_eq, decide_eq_true_eq, decide_eq_true_eq, decide_eq_true_eq] at h
  rcases h with (h | h) | h
  · exact IntMulOk.of_left (intBits_le_64 h.1 h.2)
  · exact IntMulOk.of_right (intBits_le_64 h.1 h.2)
  · exact CMulW.ok h
noncomputable def divOk (b : Int) : Bool := shut (decide (0 < b) && decide (b.natAbs.log2 < 9000))
theorem divOk_eq (b : Int) : divOk b = (decide (0 < b) && decide (b.natAbs.log2 < 9000)) := shut_eq _
noncomputable def dAdd : PyData → PyData → R PyData
  | .int a, .int b => .ok (.int (a + b))
  | .list a, .list b => if a.length + b.length ≤ szl then .ok (.list (a ++ b)) else .no
  | .tuple a, .tuple b => if a.length + b.length ≤ szl then .ok (.tuple (a ++ b)) else .no
  | _, _ => .no
def dSub : PyData → PyData → R PyData
  | .int a, .int b => .ok (.int (a - b))
  | _, _ => .no
noncomputable def dMul : PyData → PyData → R PyData
  | .int a, .int b => if mulOk a b = true then .ok (.int (a * b)) else .no
  | .list a, .int k => if a.length * k.toNat ≤ szl ∧ k < lim ∧ -lim < k then .ok (.list (List.replicate k.toNat a).flatten) else .no
  | .tuple a, .int k => if a ≠ [] ∧ 2 ≤ k ∧ k ≤ 1000 ∧ a.length ≤ 1000 then .ok (.tuple (List.replicate k.toNat a).flatten) else .no
  | _, _ => .no
noncomputable def dDiv : PyData → PyData → R PyData
  | .int a, .int b => if divOk b = true then .ok (.int (a / b)) else .no
  | _, _ => .no
def dMod : PyData → PyData → R PyData
  | .int a, .int b => if 0 < b then .ok (.int (a % b)) else .no
  | _, _ => .no
noncomputable def dPow : PyData → PyData → R PyData
  | .int a, .int b => if 0 ≤ b ∧ b ≤ lim ∧ a.natAbs < 2 ^ 64 then .ok (.int (a ^ b.toNat)) else .no
  | _, _ => .no
def dEq (x y : PyData) : R PyData := if SeqAt.shaped x = true ∧ SeqAt.shaped y = true then .ok (.bool (PyData.eqv x y)) else .no
def dNe (x y : PyData) : R PyData := if SeqAt.shaped x = true ∧ SeqAt.shaped y = true then .ok (.bool (!PyData.eqv x y)) else .no
def strLt (x y : Str) : Bool := decide (x.cps.toList < y.cps.toList)
def strLe (x y : Str) : Bool := !decide (y.cps.toList < x.cps.toList)
def dLt : PyData → PyData → R PyData
  | .int a, .int b => .ok (.bool (decide (a < b)))
  | _, _ => .no
def dLe : PyData → PyData → R PyData
  | .int a, .int b => .ok (.bool (decide (a ≤ b)))
  | _, _ => .no
def dGt : PyData → PyData → R PyData
  | .int a, .int b => .ok (.bool (decide (b < a)))
  | _, _ => .no
def dGe : PyData → PyData → R PyData
  | .int a, .int b => .ok (.bool (decide (b ≤ a)))
  | _, _ => .no
def isNone : PyData → Bool
  | .none => true
  | _ => false
def dIs : PyData → PyData → R PyData
  | x, .none => .ok (.bool (isNone x))
  | .bool a, .bool b => .ok (.bool (decide (a = b)))
  | _, _ => .no
def dIsNot : PyData → PyData → R PyData
  | x, .none => .ok (.bool (!isNone x))
  | .bool a, .bool b => .ok (.bool (!decide (a = b)))
  | _, _ => .no
/-- the item at an index of any sign -/
def dIx : PyData → PyData → R PyData
  | .list xs, .int i => match atI xs i with
    | some d => .ok d
    | none => .no
  | .tuple xs, .int i => match atI xs i with
    | some d => .ok d
    | none => .no
  | _, _ => .no
def dNeg : PyData → R PyData
  | .int a => .ok (.int (-a))
  | _ => .no

section
variable {K : PySem.W.Frag} {G H : Hp}
theorem ext_list {xs : List V} {ds : List PyData} {p : Addr} (i : Same G H) (n : H p = none) (r : RepA K G xs ds) : Rep K (upd G p (.lst xs)) (.ref p) (.list ds) :=
  .lst (.of upd_same) (r.mono (same_new (i.free n)))
theorem ext_tup {xs : List V} {ds : List PyData} {p : Addr} (i : Same G H) (n : H p = none) (r : RepA K G xs ds) : Rep K (upd G p (.tup xs)) (.ref p) (.tuple ds) :=
  .tup (.inl (.inl upd_same)) (r.mono (same_new (i.free n)))
end
section
variable {X : Cx}
/-- the object of a list that is read -/
theorem ls_obj {pins : List (Addr × Obj)} {σ : L2.St} {H : Hp} {s : Shared} {a : Addr} {xs : List V} (I : Inv X pins σ H s) (h : LsL X.K H a xs) :
    ∃ (its : List Value) (n : Nat), Vals xs its ∧ its.length = xs.length ∧ xs.length ≤ sizeLine ∧ s.heap.get? a = some { cls := .type "list", data := .seq its.toArray n } := by
  rcases h with h | ⟨its, n, h1, h2, h3⟩
  · obtain ⟨z, its, n, r, e⟩ := h.ok I.hok
    exact ⟨its, n, r, r.length.symm, z, e⟩
  · exact ⟨its, n, h3, h3.length.symm, by rw [h3.length]; exact h2, I.kIn _ _ h1⟩
/-- list + list, both only read -/
def rCatR (K : PySem.W.Frag) : R2 := fun x y H Q => ∃ l b xs zs, x = .ref l ∧ y = .ref b ∧ LsL K H l xs ∧ LsL K H b zs ∧ xs.length + zs.length ≤ sizeLine ∧ ∀ p, H p = none → Q (.ref p) (upd H p (.lst (xs ++ zs)))
theorem op_catR : OpR X (binaryOp .Add) (rCatR X.K) := fun pins s σ H x y v u Q I rx ry ⟨l, b, xs, zs, ex, ey, hl, hb, hz, q⟩ => by
  subst ex ey
  obtain rfl : v = Value.ref l := rx
  obtain rfl : u = Value.ref b := ry
  obtain ⟨is, n, r1, l1, _, o1⟩ := ls_obj I hl
  obtain ⟨js, m, r2, l2, _, o2⟩ := ls_obj I hb
  have fit : is.toArray.size + js.toArray.size ≤ sizeLine := by simp only [List.size_toArray, l1, l2]; exact hz
  have glue : is.toArray ++ js.toArray = (is ++ js).toArray := by simp
  refine PySem.P.add_list o1 o2 (glue ▸ ?_) fit
  have long : (xs ++ zs).length ≤ sizeLine := by simp only [List.length_append]; exact hz
  exact ⟨.ref _, _, I.lnew (t' := s.toks) (r1.append r2) long, rfl, q _ I.fresh⟩
def rAddP (K : PySem.W.Frag) : R2 := fun x y H Q => rI0 (fun i j => .int (i + j)) x y H Q ∨ rCatR K x y H Q ∨ rCatA K x y H Q
theorem op_addP : OpR X (binaryOp .Add) (rAddP X.K) := op_add.or (op_catR.or op_catA)
theorem od_add {K : PySem.W.Frag} : OpD K (rAddP K) dAdd := by
  intro x y dx dy d G H Q i rx ry h q
  cases rx with
  | int a =>
    cases ry with
    | int b => cases h; exact .inl ⟨a, b, rfl, rfl, q _ G H (Ext.refl i) (.int _)⟩
    | _ => cases h
  | @lst a xs ds ha r =>
    cases ry with
    | @lst b zs es hb r2 =>
      simp only [dAdd] at h
      split at h
      · rename_i hz
        cases h
        refine .inr (.inl ⟨a, b, xs, zs, rfl, rfl, ls_same i ha, ls_same i hb, szl_line (by rw [r.length, r2.length]; exact hz), fun p n => ?_⟩)
        exact q _ _ _ (Ext.new i n) (ext_list i n (r.append r2))
      · cases h
    | _ => cases h
  | @tup a xs ds ha r =>
    cases ry with
    | @tup b zs es hb r2 =>
      simp only [dAdd] at h
      split at h
      · rename_i hz
        cases h
        refine .inr (.inr ⟨a, b, xs, zs, rfl, rfl, sqT_same i ha, sqT_same i hb, szl_line (by rw [r.length, r2.length]; exact hz), fun e => ?_, fun _ e => ?_, fun _ _ p n => ?_⟩)
        · subst e
          cases r
          exact q _ G H (Ext.refl i) (.tup hb r2)
        · subst e
          cases r2
          exact q _ G H (Ext.refl i) (.tup ha (by rw [List.append_nil]; exact r))
        · exact q _ _ _ (Ext.new i n) (ext_tup i n (r.append r2))
      · cases h
    | _ => cases h
  | _ => cases h
theorem nx_add : NoEx dAdd := by
  intro x y c h
  unfold dAdd at h
  split at h
  · cases h
  · split at h <;> cases h
  · split at h <;> cases h
  · cases h
theorem od_sub {K : PySem.W.Frag} : OpD K (rI0 fun i j => .int (i - j)) dSub := by
  intro x y dx dy d G H Q i rx ry h q
  cases rx with
  | int a =>
    cases ry with
    | int b => cases h; exact ⟨a, b, rfl, rfl, q _ G H (Ext.refl i) (.int _)⟩
    | _ => cases h
  | _ => cases h
theorem nx_sub : NoEx dSub := by
  intro x y c h
  unfold dSub at h
  split at h <;> cases h
/-- list * int, the list only read -/
def rRepR (K : PySem.W.Frag) : R2 := fun x y H Q => ∃ l k xs, x = .ref l ∧ y = .int k ∧ LsL K H l xs ∧ -(2 ^ 63) ≤ k ∧ k < 2 ^ 63 ∧ xs.length * k.toNat ≤ sizeLine ∧
  ∀ p, H p = none → Q (.ref p) (upd H p (.lst (List.replicate k.toNat xs).flatten))
theorem rep_array (is : List Value) (m : Nat) : List.foldl (fun x1 x2 => x1 ++ x2) #[] (List.replicate (if is.toArray.isEmpty = true then 0 else m) is.toArray) = (List.replicate m is).flatten.toArray := by
  have all := foldl_rep is
  cases is with
  | nil => simpa using all 0 []
  | cons z zs => simpa using all m []
theorem op_repR : OpR X (binaryOp .Mult) (rRepR X.K) := fun pins s σ H x y v u Q I rx ry ⟨l, k, xs, ex, ey, hl, lo, hi, hz, q⟩ => by
  subst ex ey
  obtain rfl : v = Value.ref l := rx
  obtain ⟨t, rfl⟩ : ∃ t, u = Value.int k t := ry
  obtain ⟨is, n, r1, l1, _, o1⟩ := ls_obj I hl
  have fit : is.toArray.size * k.toNat ≤ sizeLine := by simp only [List.size_toArray, l1]; exact hz
  have c1 : ¬ (!Builtin.List.listFitsIndex k) = true := by simp [fitsIndex_both lo hi]
  have c2 : ¬ is.toArray.size * k.toNat > (2 ^ 63 - 1) / 8 := Nat.not_lt.mpr (Nat.le_trans fit (by decide))
  have c3 : ¬ Builtin.List.listTooLong (is.toArray.size * k.toNat) = true := by rw [notLongL fit]; exact Bool.false_ne_true
  have inner := AutoListH.list___mul___list_int_3 l is.toArray n k t c1 c2 c3
  have fin : EP X pins σ Q (.ref s.heap.objs.size) { s with heap := s.heap.push { cls := .type "list", data := .seq (List.replicate k.toNat is).flatten.toArray } } :=
    ⟨.ref _, _, I.lnew (t' := s.toks) (r1.rep k.toNat) (by rw [PyProof.Rows.lm_len_rep_flat, Nat.mul_comm]; exact hz), rfl, q _ I.fresh⟩
  rw [← rep_array is k.toNat] at fin
  exact wpAny_binaryOp_repeat_ref (T := "list") (U := "int") (by decide) ⟨_, o1, rfl⟩ (fun s' => typeIs_int s' k t) noFill_list_mul F.fills_int_mul F.slot_int_rmul repeat_list F.slot_int_index.lookup
    (call_meets F.slot_int_rmul (typeIs_int s k t) F.entry_int_rmul (F.args_int_rmul_2 _ _) (int___rmul___int_list k t l is.toArray n) ⟨o1, rfl, ⟨_, o1, rfl⟩, call_meets F.slot_list_mul ⟨_, o1, rfl⟩ F.entry_list_mul (F.args_list_mul_2 _ _) inner ⟨o1, fin⟩⟩)
end
end PL
/-! PL, part c: more operators, tests, argument lists, displays, calls. -/
namespace PL
open PySem PySem.Spec PyProof.Rows L2
section
variable {X : Cx} {K : PySem.W.Frag}
def rMulP (K : PySem.W.Frag) : R2 := fun x y H Q => rI (fun i j => mulOk i j = true) (fun i j => .int (i * j)) x y H Q ∨ rRepR K x y H Q ∨ rRepT K x y H Q
theorem op_mulI : OpR X (binaryOp .Mult) (rI (fun i j => mulOk i j = true) fun i j => .int (i * j)) := opI fun _ _ _ _ _ _ _ hc q => mul_int q (mulOk_ok hc)
theorem op_mulP : OpR X (binaryOp .Mult) (rMulP X.K) := op_mulI.or (op_repR.or op_repT)
theorem od_mul : OpD K (rMulP K) dMul := by
  intro x y dx dy d G H Q i rx ry h q
  cases rx with
  | int a =>
    cases ry with
    | int b =>
      simp only [dMul] at h
      split at h
      · rename_i hm
        cases h
        exact .inl ⟨a, b, rfl, rfl, hm, q _ G H (Ext.refl i) (.int _)⟩
      · cases h
    | _ => cases h
  | @lst a xs ds ha r =>
    cases ry with
    | int k =>
      simp only [dMul] at h
      split at h
      · rename_i hz
        cases h
        have hlim := lim_eq
        refine .inr (.inl ⟨a, k, xs, rfl, rfl, ls_same i ha, by omega, by omega, szl_line (by rw [r.length]; exact hz.1), fun p n => ?_⟩)
        exact q _ _ _ (Ext.new i n) (ext_list i n (r.rep _))
      · cases h
    | _ => cases h
  | @tup a xs ds ha r =>
    cases ry with
    | int k =>
      simp only [dMul] at h
      split at h
      · rename_i hz
        cases h
        have hl := r.length
        refine .inr (.inr ⟨a, k, xs, rfl, rfl, sqT_same i ha, fun e => ?_, hz.2.1, hz.2.2.1, by rw [hl]; exact hz.2.2.2, fun p n => ?_⟩)
        · subst e
          cases r
          exact hz.1 rfl
        · exact q _ _ _ (Ext.new i n) (ext_tup i n (r.rep _))
      · cases h
    | _ => cases h
  | _ => cases h
theorem nx_mul : NoEx dMul := by
  intro x y c h
  unfold dMul at h
  split at h
  · split at h <;> cases h
  · split at h <;> cases h
  · split at h <;> cases h
  · cases h
theorem od_div : OpD K (rI CDivW fun i j => .int (i / j)) dDiv := by
  intro x y dx dy d G H Q i rx ry h q
  cases rx with
  | int a =>
    cases ry with
    | int b =>
      simp only [dDiv] at h
      split at h
      · rename_i hm
        cases h
        rw [divOk_eq] at hm
        rw [Bool.and_eq_true, decide_eq_true_eq, decide_eq_true_eq] at hm
        exact ⟨a, b, rfl, rfl, hm, q _ G H (Ext.refl i) (.int _)⟩
      · cases h
    | _ => cases h
  | _ => cases h
theorem nx_div : NoEx dDiv := by
  intro x y c h
  unfold dDiv at h
  split at h
  · split at h <;> cases h
  · cases h
theorem od_mod : OpD K (rI (fun _ j => 0 < j) fun i j => .int (i % j)) dMod := by
  intro x y dx dy d G H Q i rx ry h q
  cases rx with
  | int a =>
    cases ry with
    | int b =>
      simp only [dMod] at h
      split at h
      · rename_i hm
        cases h
        exact ⟨a, b, rfl, rfl, hm, q _ G H (Ext.refl i) (.int _)⟩
      · cases h
    | _ => cases h
  | _ => cases h
theorem nx_mod : NoEx dMod := by
  intro x y c h
  unfold dMod at h
  split at h
  · split at h <;> cases h
  · cases h
theorem od_pow : OpD K (rI CPow fun i j => .int (i ^ j.toNat)) dPow := by
  intro x y dx dy d G H Q i rx ry h q
  cases rx with
  | int a =>
    cases ry with
    | int b =>
      simp only [dPow] at h
      split at h
      · rename_i hm
        cases h
        exact ⟨a, b, rfl, rfl, by rw [lim_eq] at hm; exact hm, q _ G H (Ext.refl i) (.int _)⟩
      · cases h
    | _ => cases h
  | _ => cases h
theorem nx_pow : NoEx dPow := by
  intro x y c h
  unfold dPow at h
  split at h
  · split at h <;> cases h
  · cases h
theorem od_eq : OpD K (rEqD K) dEq := by
  intro x y dx dy d G H Q i rx ry h q
  unfold dEq at h
  split at h
  · rename_i hs
    cases h
    exact ⟨dx, dy, (rx.mono i).dp (SeqAt.canLay_of_shaped hs.1), (ry.mono i).dp (SeqAt.canLay_of_shaped hs.2), hs.1, hs.2, q _ G H (Ext.refl i) (.bl _)⟩
  · cases h
theorem od_ne : OpD K (rNeD K) dNe := by
  intro x y dx dy d G H Q i rx ry h q
  unfold dNe at h
  split at h
  · rename_i hs
    cases h
    exact ⟨dx, dy, (rx.mono i).dp (SeqAt.canLay_of_shaped hs.1), (ry.mono i).dp (SeqAt.canLay_of_shaped hs.2), hs.1, hs.2, q _ G H (Ext.refl i) (.bl _)⟩
  · cases h
theorem nx_eq : NoEx dEq := by
  intro x y c h
  unfold dEq at h
  split at h <;> cases h
theorem nx_ne : NoEx dNe := by
  intro x y c h
  unfold dNe at h
  split at h <;> cases h
theorem od_lt : OpD K (rI0 fun i j => .bl (decide (i < j))) dLt := by
  intro x y dx dy d G H Q i rx ry h q
  cases rx with
  | int a =>
    cases ry with
    | int b => cases h; exact ⟨a, b, rfl, rfl, q _ G H (Ext.refl i) (.bl _)⟩
    | _ => cases h
  | _ => cases h
theorem od_le : OpD K (rI0 fun i j => .bl (decide (i ≤ j))) dLe := by
  intro x y dx dy d G H Q i rx ry h q
  cases rx with
  | int a =>
    cases ry with
    | int b => cases h; exact ⟨a, b, rfl, rfl, q _ G H (Ext.refl i) (.bl _)⟩
    | _ => cases h
  | _ => cases h
theorem od_gt : OpD K (rI0 fun i j => .bl (decide (j < i))) dGt := by
  intro x y dx dy d G H Q i rx ry h q
  cases rx with
  | int a =>
    cases ry with
    | int b => cases h; exact ⟨a, b, rfl, rfl, q _ G H (Ext.refl i) (.bl _)⟩
    | _ => cases h
  | _ => cases h
theorem od_ge : OpD K (rI0 fun i j => .bl (decide (j ≤ i))) dGe := by
  intro x y dx dy d G H Q i rx ry h q
  cases rx with
  | int a =>
    cases ry with
    | int b => cases h; exact ⟨a, b, rfl, rfl, q _ G H (Ext.refl i) (.bl _)⟩
    | _ => cases h
  | _ => cases h
theorem nx_lt : NoEx dLt := by
  intro x y c h
  unfold dLt at h
  split at h <;> cases h
theorem nx_le : NoEx dLe := by
  intro x y c h
  unfold dLe at h
  split at h <;> cases h
theorem nx_gt : NoEx dGt := by
  intro x y c h
  unfold dGt at h
  split at h <;> cases h
theorem nx_ge : NoEx dGe := by
  intro x y c h
  unfold dGe at h
  split at h <;> cases h
theorem non_iff {G : Hp} {x : V} {d : PyData} (r : Rep K G x d) : decide (x = .non) = isNone d := by cases r <;> rfl
def rIsP : R2 := fun x y H Q => (y = .non ∧ Q (.bl (decide (x = .non))) H) ∨ rIsB x y H Q
def rNotP : R2 := fun x y H Q => (y = .non ∧ Q (.bl (!decide (x = .non))) H) ∨ rNotB x y H Q
theorem op_isP : OpR X (compareOp .Is) rIsP := op_isN.or op_isBl
theorem op_notP : OpR X (compareOp .IsNot) rNotP := op_notN.or op_notBl
theorem od_is : OpD K rIsP dIs := by
  intro x y dx dy d G H Q i rx ry h q
  cases ry with
  | non =>
    cases h
    exact .inl ⟨rfl, by rw [non_iff rx]; exact q _ G H (Ext.refl i) (.bl _)⟩
  | bl b =>
    cases rx with
    | bl a => cases h; exact .inr ⟨a, b, rfl, rfl, q _ G H (Ext.refl i) (.bl _)⟩
    | _ => cases h
  | _ => cases rx <;> cases h
theorem od_isNot : OpD K rNotP dIsNot := by
  intro x y dx dy d G H Q i rx ry h q
  cases ry with
  | non =>
    cases h
    exact .inl ⟨rfl, by rw [non_iff rx]; exact q _ G H (Ext.refl i) (.bl _)⟩
  | bl b =>
    cases rx with
    | bl a => cases h; exact .inr ⟨a, b, rfl, rfl, q _ G H (Ext.refl i) (.bl _)⟩
    | _ => cases h
  | _ => cases rx <;> cases h
theorem nx_is : NoEx dIs := by
  intro x y c h
  unfold dIs at h
  split at h <;> cases h
theorem nx_isNot : NoEx dIsNot := by
  intro x y c h
  unfold dIsNot at h
  split at h <;> cases h
theorem RepA.atI {G : Hp} {vs : List V} {ds : List PyData} {i : Int} {d : PyData} (r : RepA K G vs ds) (h : L2.atI ds i = some d) : ∃ v, L2.atI vs i = some v ∧ Rep K G v d := by
  unfold L2.atI at h ⊢
  rw [r.length]
  cases e : ixN ds.length i with
  | none => rw [e] at h; cases h
  | some j =>
    rw [e] at h
    exact r.get h
theorem od_ix : OpD K (rIx K) dIx := by
  intro x y dx dy d G H Q i rx ry h q
  cases rx with
  | @lst a xs ds ha r =>
    cases ry with
    | int k =>
      simp only [dIx] at h
      split at h
      · rename_i d' hd
        cases h
        obtain ⟨v, h1, h2⟩ := r.atI hd
        exact .inl ⟨a, xs, k, v, rfl, rfl, (ls_same i ha).sq, h1, q v G H (Ext.refl i) h2⟩
      · cases h
    | _ => cases h
  | @tup a xs ds ha r =>
    cases ry with
    | int k =>
      simp only [dIx] at h
      split at h
      · rename_i d' hd
        cases h
        obtain ⟨v, h1, h2⟩ := r.atI hd
        exact .inr (.inl ⟨a, xs, k, v, rfl, rfl, sqT_same i ha, h1, q v G H (Ext.refl i) h2⟩)
      · cases h
    | _ => cases h
  | _ => cases h
theorem nx_ix : NoEx dIx := by
  intro x y c h
  unfold dIx at h
  split at h
  · split at h <;> cases h
  · split at h <;> cases h
  · cases h
theorem ud_neg : UnD K (rU fun i => .int (-i)) dNeg := by
  intro x dx d G H Q i rx h q
  cases rx with
  | int a => cases h; exact ⟨a, rfl, q _ G H (Ext.refl i) (.int _)⟩
  | _ => cases h
theorem ux_neg : ∀ x c, dNeg x ≠ .ex c := by
  intro x c h
  unfold dNeg at h
  split at h <;> cases h
end
section
variable {X : Cx} {ec : Nat → Addr} {W : WX} {a b c e : Expr} {fa fb fc f : EF} {pos : Pos}
theorem se_add (ha : PE X a (tD X.K ec W fa)) (hb : PE X b (tD X.K ec W fb)) : PE X (.BinOp a .Add b pos) (tD X.K ec W (eBin dAdd fa fb)) := se_bin op_addP od_add nx_add ha hb
theorem se_sub (ha : PE X a (tD X.K ec W fa)) (hb : PE X b (tD X.K ec W fb)) : PE X (.BinOp a .Sub b pos) (tD X.K ec W (eBin dSub fa fb)) := se_bin op_sub od_sub nx_sub ha hb
theorem se_mul (ha : PE X a (tD X.K ec W fa)) (hb : PE X b (tD X.K ec W fb)) : PE X (.BinOp a .Mult b pos) (tD X.K ec W (eBin dMul fa fb)) := se_bin op_mulP od_mul nx_mul ha hb
theorem se_div (ha : PE X a (tD X.K ec W fa)) (hb : PE X b (tD X.K ec W fb)) : PE X (.BinOp a .FloorDiv b pos) (tD X.K ec W (eBin dDiv fa fb)) := se_bin op_fdivW od_div nx_div ha hb
theorem se_mod (ha : PE X a (tD X.K ec W fa)) (hb : PE X b (tD X.K ec W fb)) : PE X (.BinOp a .Mod b pos) (tD X.K ec W (eBin dMod fa fb)) := se_bin op_mod od_mod nx_mod ha hb
theorem se_pow (ha : PE X a (tD X.K ec W fa)) (hb : PE X b (tD X.K ec W fb)) : PE X (.BinOp a .Pow b pos) (tD X.K ec W (eBin dPow fa fb)) := se_bin op_pow od_pow nx_pow ha hb
theorem se_neg (ha : PE X a (tD X.K ec W fa)) : PE X (.UnaryOp .USub a pos) (tD X.K ec W (eUn dNeg fa)) := se_un un_neg ud_neg ux_neg ha
theorem se_at (ha : PE X a (tD X.K ec W fa)) (hb : PE X b (tD X.K ec W fb)) (hs : PlainIx b := by exact fun _ _ => rfl) : PE X (.Subscript a b pos) (tD X.K ec W (eBin dIx fa fb)) := se_ix ix_seq od_ix nx_ix ha hb hs
theorem se_eq (hu : X.A.units + 64 < cLine) (ha : PE X a (tD X.K ec W fa)) (hb : PE X b (tD X.K ec W fb)) : PE X (.Compare a [.Eq] [b] pos) (tD X.K ec W (eBin dEq fa fb)) := se_cmp (op_eqD hu) od_eq nx_eq ha hb (nomark _)
theorem se_ne (hu : X.A.units + 64 < cLine) (ha : PE X a (tD X.K ec W fa)) (hb : PE X b (tD X.K ec W fb)) : PE X (.Compare a [.NotEq] [b] pos) (tD X.K ec W (eBin dNe fa fb)) := se_cmp (op_neD hu) od_ne nx_ne ha hb (nomark _)
theorem se_lt (ha : PE X a (tD X.K ec W fa)) (hb : PE X b (tD X.K ec W fb)) : PE X (.Compare a [.Lt] [b] pos) (tD X.K ec W (eBin dLt fa fb)) := se_cmp op_lt od_lt nx_lt ha hb (nomark _)
theorem se_le (ha : PE X a (tD X.K ec W fa)) (hb : PE X b (tD X.K ec W fb)) : PE X (.Compare a [.LtE] [b] pos) (tD X.K ec W (eBin dLe fa fb)) := se_cmp op_le od_le nx_le ha hb (nomark _)
theorem se_gt (ha : PE X a (tD X.K ec W fa)) (hb : PE X b (tD X.K ec W fb)) : PE X (.Compare a [.Gt] [b] pos) (tD X.K ec W (eBin dGt fa fb)) := se_cmp op_gt od_gt nx_gt ha hb (nomark _)
theorem se_ge (ha : PE X a (tD X.K ec W fa)) (hb : PE X b (tD X.K ec W fb)) : PE X (.Compare a [.GtE] [b] pos) (tD X.K ec W (eBin dGe fa fb)) := se_cmp op_ge od_ge nx_ge ha hb (nomark _)
theorem se_is (ha : PE X a (tD X.K ec W fa)) (hb : PE X b (tD X.K ec W fb)) : PE X (.Compare a [.Is] [b] pos) (tD X.K ec W (eBin dIs fa fb)) := se_cmp op_isP od_is nx_is ha hb (nomark _)
theorem se_isNot (ha : PE X a (tD X.K ec W fa)) (hb : PE X b (tD X.K ec W fb)) : PE X (.Compare a [.IsNot] [b] pos) (tD X.K ec W (eBin dIsNot fa fb)) := se_cmp op_notP od_isNot nx_isNot ha hb (nomark _)
end

/-! ### tests -/
abbrev TF := List (Option PyData) → R Bool
def toB : R PyData → R Bool
  | .ok (.bool b) => .ok b
  | .ok _ => .no
  | .ex c => .ex c
  | .no => .no
def bVal (f : EF) (env : List (Option PyData)) : R Bool := toB (f env)
def bC (b : Bool) (_ : List (Option PyData)) : R Bool := .ok b
def bNot (f : TF) (env : List (Option PyData)) : R Bool := (f env).bind fun b => .ok (!b)
def bAnd (f g : TF) (env : List (Option PyData)) : R Bool := (f env).bind fun b => (if b then g else bC false) env
def bOr (f g : TF) (env : List (Option PyData)) : R Bool := (f env).bind fun b => (if b then bC true else g) env
def eAnd (f g : EF) (env : List (Option PyData)) : R PyData := (bVal f env).bind fun b => (if b then g else eC (.bool false)) env
def eOr (f g : EF) (env : List (Option PyData)) : R PyData := (bVal f env).bind fun b => (if b then eC (.bool true) else g) env
def eNot (f : EF) (env : List (Option PyData)) : R PyData := (bVal f env).bind fun b => .ok (.bool (!b))
def eIf (t : TF) (f g : EF) (env : List (Option PyData)) : R PyData := (t env).bind fun b => (if b then f else g) env
def eChain (g g' : PyData → PyData → R PyData) (fa fb fc : EF) (env : List (Option PyData)) : R PyData := (fa env).bind fun x => (fb env).bind fun y => (toB (g x y)).bind fun k => if k then (fc env).bind (g' y) else .ok (.bool false)
def PostB (K : PySem.W.Frag) (ec : Nat → Addr) (W : WX) (σ : L2.St) (H : Hp) (Q : Bool → Hp → Prop) : R Bool → Prop
  | .ok b => ∀ H', Same H H' → Q b H'
  | .ex c => ∀ H', Same H H' → W (.ref (ec c)) none σ H'
  | .no => False
def tDT (K : PySem.W.Frag) (ec : Nat → Addr) (W : WX) (f : TF) : TT := fun σ H Q => ∃ G env, Same G H ∧ EnvR K G σ env ∧ PostB K ec W σ H Q (f env)
section
variable {K : PySem.W.Frag} {ec : Nat → Addr} {W : WX} {σ : L2.St} {G H G' H' : Hp}
theorem PostB.mono {Q : Bool → Hp → Prop} {r : R Bool} (e : Same H H') (h : PostB K ec W σ H Q r) : PostB K ec W σ H' Q r := by
  cases r with
  | ok d => exact fun H2 e2 => h H2 (e.trans e2)
  | ex c => exact fun H2 s2 => h H2 (e.trans s2)
  | no => exact h
/-- a test ahead of a datum -/
theorem PostB.bind {Q : VK} {Q' : Bool → Hp → Prop} {r : R Bool} {k : Bool → R PyData} (h : Post K ec W σ G H Q (r.bind k)) (i : Same G H) (hk : ∀ b H', r = .ok b → Same H H' → Post K ec W σ G H' Q (k b) → Q' b H') : PostB K ec W σ H Q' r := by
  cases r with
  | ok d => exact fun H' e => hk d H' rfl e (Post.mono (Ext.heap i e) h)
  | ex c => exact h
  | no => exact h
theorem PostB.bindB {Q Q' : Bool → Hp → Prop} {r : R Bool} {k : Bool → R Bool} (h : PostB K ec W σ H Q (r.bind k)) (hk : ∀ b H', r = .ok b → Same H H' → PostB K ec W σ H' Q (k b) → Q' b H') : PostB K ec W σ H Q' r := by
  cases r with
  | ok d => exact fun H' e => hk d H' rfl e (PostB.mono e h)
  | ex c => exact h
  | no => exact h
/-- a datum that is a truth -/
theorem Post.toB {Q : VK} {Q' : Bool → Hp → Prop} {r : R PyData} (h : PostB K ec W σ H Q' (PL.toB r)) (hq : ∀ b H', Same H H' → Q' b H' → Q (.bl b) H') : Post K ec W σ G H Q r := by
  cases r with
  | ok d =>
    cases d with
    | bool b =>
      intro v G' H' e p
      cases p
      exact hq b H' e.h (h H' e.h)
    | _ => exact h.elim
  | ex c => exact h
  | no => exact h
end
section
variable {X : Cx} {ec : Nat → Addr} {W : WX} {a b c e : Expr} {fa fb fc f : EF} {ft fu : TF} {pos : Pos}
theorem tTest_D {t : TE} {σ : L2.St} {H : Hp} {Q : Bool → Hp → Prop} {K : PySem.W.Frag} (k : ∀ Q : VK, tD K ec W f σ H Q → t σ H Q) : tDT K ec W (bVal f) σ H Q → tTest t σ H Q := by
  rintro ⟨G, env, s, E, p⟩
  refine k _ ⟨G, env, s, E, Post.toB p fun b H' _ q => ⟨b, rfl, q⟩⟩
theorem st_val (h : PE X e (tD X.K ec W f)) (he : ∀ whole, isTrue e X.env whole = (do let v ← whole; standAt e.pos; holding [v] (truthy v)) := by intro _; rfl) : PT X e (tDT X.K ec W (bVal f)) :=
  PT_imp (pt_val h he) fun σ H Q => tTest_D fun _ h => h
theorem st_cmp {op : CmpOp} {r : R2} {g : PyData → PyData → R PyData} (ho : OpR X (compareOp op) r) (hg : OpD X.K r g) (hx : NoEx g) (ha : PE X a (tD X.K ec W fa)) (hb : PE X b (tD X.K ec W fb)) (hm : behindInMarks op b = false) :
    PT X (.Compare a [op] [b] pos) (tDT X.K ec W (bVal (eBin g fa fb))) := PT_imp (pt_cmpR ho ha hb hm) fun σ H Q => tTest_D fun _ => tOp_D hg hx
theorem st_eq (hu : X.A.units + 64 < cLine) (ha : PE X a (tD X.K ec W fa)) (hb : PE X b (tD X.K ec W fb)) : PT X (.Compare a [.Eq] [b] pos) (tDT X.K ec W (bVal (eBin dEq fa fb))) := st_cmp (op_eqD hu) od_eq nx_eq ha hb (nomark _)
theorem st_ne (hu : X.A.units + 64 < cLine) (ha : PE X a (tD X.K ec W fa)) (hb : PE X b (tD X.K ec W fb)) : PT X (.Compare a [.NotEq] [b] pos) (tDT X.K ec W (bVal (eBin dNe fa fb))) := st_cmp (op_neD hu) od_ne nx_ne ha hb (nomark _)
theorem st_lt (ha : PE X a (tD X.K ec W fa)) (hb : PE X b (tD X.K ec W fb)) : PT X (.Compare a [.Lt] [b] pos) (tDT X.K ec W (bVal (eBin dLt fa fb))) := st_cmp op_lt od_lt nx_lt ha hb (nomark _)
theorem st_le (ha : PE X a (tD X.K ec W fa)) (hb : PE X b (tD X.K ec W fb)) : PT X (.Compare a [.LtE] [b] pos) (tDT X.K ec W (bVal (eBin dLe fa fb))) := st_cmp op_le od_le nx_le ha hb (nomark _)
theorem st_gt (ha : PE X a (tD X.K ec W fa)) (hb : PE X b (tD X.K ec W fb)) : PT X (.Compare a [.Gt] [b] pos) (tDT X.K ec W (bVal (eBin dGt fa fb))) := st_cmp op_gt od_gt nx_gt ha hb (nomark _)
theorem st_ge (ha : PE X a (tD X.K ec W fa)) (hb : PE X b (tD X.K ec W fb)) : PT X (.Compare a [.GtE] [b] pos) (tDT X.K ec W (bVal (eBin dGe fa fb))) := st_cmp op_ge od_ge nx_ge ha hb (nomark _)
theorem st_is (ha : PE X a (tD X.K ec W fa)) (hb : PE X b (tD X.K ec W fb)) : PT X (.Compare a [.Is] [b] pos) (tDT X.K ec W (bVal (eBin dIs fa fb))) := st_cmp op_isP od_is nx_is ha hb (nomark _)
theorem st_isNot (ha : PE X a (tD X.K ec W fa)) (hb : PE X b (tD X.K ec W fb)) : PT X (.Compare a [.IsNot] [b] pos) (tDT X.K ec W (bVal (eBin dIsNot fa fb))) := st_cmp op_notP od_isNot nx_isNot ha hb (nomark _)
theorem st_not (ha : PT X a (tDT X.K ec W ft)) : PT X (.UnaryOp .Not a pos) (tDT X.K ec W (bNot ft)) :=
  PT_imp (pt_not ha) fun σ H Q ⟨G, env, s, E, p⟩ => ⟨G, env, s, E, PostB.bindB p fun b H' _ _ q => q H' (Same.refl _)⟩
theorem sw_and1 (ha : PT X a (tDT X.K ec W ft)) : PW X (.BoolOp .And [a] pos) (tDT X.K ec W ft) := pw_and1 ha
theorem sw_or1 (ha : PT X a (tDT X.K ec W ft)) : PW X (.BoolOp .Or [a] pos) (tDT X.K ec W ft) := pw_or1 ha
theorem sw_and {rest : List Expr} (ha : PT X a (tDT X.K ec W ft)) (hb : PW X (.BoolOp .And (b :: rest) pos) (tDT X.K ec W fu)) : PW X (.BoolOp .And (a :: b :: rest) pos) (tDT X.K ec W (bAnd ft fu)) :=
  PW_imp (pw_and ha hb) fun σ H Q ⟨G, env, s, E, p⟩ => ⟨G, env, s, E, PostB.bindB p fun k H' _ sh q => by
    cases k with
    | true => exact iteT ⟨G, env, s.trans sh, E, q⟩
    | false => exact iteF (q H' (Same.refl _))⟩
theorem sw_or {rest : List Expr} (ha : PT X a (tDT X.K ec W ft)) (hb : PW X (.BoolOp .Or (b :: rest) pos) (tDT X.K ec W fu)) : PW X (.BoolOp .Or (a :: b :: rest) pos) (tDT X.K ec W (bOr ft fu)) :=
  PW_imp (pw_or ha hb) fun σ H Q ⟨G, env, s, E, p⟩ => ⟨G, env, s, E, PostB.bindB p fun k H' _ sh q => by
    cases k with
    | true => exact iteT (q H' (Same.refl _))
    | false => exact iteF ⟨G, env, s.trans sh, E, q⟩⟩
theorem se_one {op : BoolOp} (h : PE X a (tD X.K ec W fa)) : PE X (.BoolOp op [a] pos) (tD X.K ec W fa) := pe_one h
theorem se_and {rest : List Expr} (ha : PE X a (tD X.K ec W fa)) (hb : PE X (.BoolOp .And (b :: rest) pos) (tD X.K ec W fb)) : PE X (.BoolOp .And (a :: b :: rest) pos) (tD X.K ec W (eAnd fa fb)) :=
  PE_imp (pe_and ha hb) fun σ H Q ⟨G, env, s, E, p⟩ => ⟨G, env, s, E, Post.toB (PostB.bind (Q' := fun k H' => if k = true then tD X.K ec W fb σ H' Q else Q (.bl false) H') p s fun k H' _ sh q => by
    cases k with
    | true => exact iteT ⟨G, env, s.trans sh, E, q⟩
    | false => exact iteF (q _ G H' (Ext.refl (s.trans sh)) (.bl _))) fun k H' _ q => ⟨k, rfl, q⟩⟩
theorem se_or {rest : List Expr} (ha : PE X a (tD X.K ec W fa)) (hb : PE X (.BoolOp .Or (b :: rest) pos) (tD X.K ec W fb)) : PE X (.BoolOp .Or (a :: b :: rest) pos) (tD X.K ec W (eOr fa fb)) :=
  PE_imp (pe_or ha hb) fun σ H Q ⟨G, env, s, E, p⟩ => ⟨G, env, s, E, Post.toB (PostB.bind (Q' := fun k H' => if k = true then Q (.bl true) H' else tD X.K ec W fb σ H' Q) p s fun k H' _ sh q => by
    cases k with
    | true => exact iteT (q _ G H' (Ext.refl (s.trans sh)) (.bl _))
    | false => exact iteF ⟨G, env, s.trans sh, E, q⟩) fun k H' _ q => ⟨k, rfl, q⟩⟩
theorem se_not (ha : PE X a (tD X.K ec W fa)) : PE X (.UnaryOp .Not a pos) (tD X.K ec W (eNot fa)) :=
  PE_imp (pe_not ha) fun σ H Q ⟨G, env, s, E, p⟩ => ⟨G, env, s, E, Post.toB (PostB.bind (Q' := fun k H' => Q (.bl (!k)) H') p s fun k H' _ sh q => q _ G H' (Ext.refl (s.trans sh)) (.bl _)) fun k H' _ q => ⟨k, rfl, q⟩⟩
theorem se_if (hc : PT X c (tDT X.K ec W ft)) (ha : PE X a (tD X.K ec W fa)) (hb : PE X b (tD X.K ec W fb)) : PE X (.IfExp c a b pos) (tD X.K ec W (eIf ft fa fb)) :=
  PE_imp (pe_ifExp hc ha hb) fun σ H Q ⟨G, env, s, E, p⟩ => ⟨G, env, s, E, PostB.bind p s fun k H' _ sh q => by
    cases k with
    | true => exact iteT ⟨G, env, s.trans sh, E, q⟩
    | false => exact iteF ⟨G, env, s.trans sh, E, q⟩⟩
theorem tChain_D {K : PySem.W.Frag} {r r' : R2} {g g' : PyData → PyData → R PyData} (hg : OpD K r g) (hx : NoEx g) (hg' : OpD K r' g') (hx' : NoEx g') {σ : L2.St} {H : Hp} {Q : VK} :
    tD K ec W (eChain g g' fa fb fc) σ H Q → tChain r r' (tD K ec W fa) (tD K ec W fb) (tD K ec W fc) σ H Q := by
  rintro ⟨G, env, s, E, p⟩
  refine ⟨G, env, s, E, Post.bind p fun x dx G1 H1 _ e1 r1 p1 => ?_⟩
  refine ⟨G1, env, e1.i, E.mono e1.g, Post.bind p1 fun y dy G2 H2 _ e2 r2 p2 => ?_⟩
  cases q : g dx dy with
  | ok d =>
    rw [q] at p2
    refine hg x y dx dy d G2 H2 _ e2.i (r1.mono e2.g) r2 q fun v G3 H3 e3 r3 => ?_
    cases d with
    | bool k =>
      cases r3
      refine ⟨k, rfl, ?_⟩
      cases k with
      | true =>
        refine iteT ⟨G3, env, e3.i, (E.mono e1.g).mono (e2.g.trans e3.g), Post.bind (Post.mono e3 p2) fun z dz G4 H4 _ e4 r4 p4 => ?_⟩
        cases q' : g' dy dz with
        | ok d' => rw [q'] at p4; exact hg' y z dy dz d' G4 H4 Q e4.i (r2.mono (e3.g.trans e4.g)) r4 q' p4
        | ex c => exact absurd q' (hx' dy dz c)
        | no => rw [q'] at p4; exact p4.elim
      | false => exact iteF (Post.mono (r := .ok (.bool false)) e3 p2 _ G3 H3 (Ext.refl e3.i) (.bl _))
    | _ => exact p2.elim
  | ex c => exact absurd q (hx dx dy c)
  | no => rw [q] at p2; exact p2.elim
theorem se_chain {op op' : CmpOp} {r r' : R2} {g g' : PyData → PyData → R PyData} (ho : OpR X (compareOp op) r) (ho' : OpR X (compareOp op') r') (hg : OpD X.K r g) (hx : NoEx g) (hg' : OpD X.K r' g') (hx' : NoEx g')
    (ha : PE X a (tD X.K ec W fa)) (hb : PE X b (tD X.K ec W fb)) (hc : PE X c (tD X.K ec W fc)) (hm : lastMarks [op, op'] [b, c] = false := by with_unfolding_all rfl) :
    PE X (.Compare a [op, op'] [b, c] pos) (tD X.K ec W (eChain g g' fa fb fc)) := PE_imp (pe_chain ho ho' ha hb hc hm) fun _ _ _ => tChain_D hg hx hg' hx'
theorem st_chain {op op' : CmpOp} {r r' : R2} {g g' : PyData → PyData → R PyData} (ho : OpR X (compareOp op) r) (ho' : OpR X (compareOp op') r') (hg : OpD X.K r g) (hx : NoEx g) (hg' : OpD X.K r' g') (hx' : NoEx g')
    (ha : PE X a (tD X.K ec W fa)) (hb : PE X b (tD X.K ec W fb)) (hc : PE X c (tD X.K ec W fc)) (hm : lastMarks [op, op'] [b, c] = false := by with_unfolding_all rfl) :
    PT X (.Compare a [op, op'] [b, c] pos) (tDT X.K ec W (bVal (eChain g g' fa fb fc))) := PT_imp (pt_chain ho ho' ha hb hc hm) fun _ _ _ => tTest_D fun _ => tChain_D hg hx hg' hx'
theorem se_lele (ha : PE X a (tD X.K ec W fa)) (hb : PE X b (tD X.K ec W fb)) (hc : PE X c (tD X.K ec W fc)) (hm : lastMarks [.LtE, .LtE] [b, c] = false := by with_unfolding_all rfl) :
    PE X (.Compare a [.LtE, .LtE] [b, c] pos) (tD X.K ec W (eChain dLe dLe fa fb fc)) := se_chain op_le op_le od_le nx_le od_le nx_le ha hb hc hm
theorem st_lele (ha : PE X a (tD X.K ec W fa)) (hb : PE X b (tD X.K ec W fb)) (hc : PE X c (tD X.K ec W fc)) (hm : lastMarks [.LtE, .LtE] [b, c] = false := by with_unfolding_all rfl) :
    PT X (.Compare a [.LtE, .LtE] [b, c] pos) (tDT X.K ec W (bVal (eChain dLe dLe fa fb fc))) := st_chain op_le op_le od_le nx_le od_le nx_le ha hb hc hm
end

/-! ### argument lists, displays -/
def aAll : List EF → List (Option PyData) → R (List PyData)
  | [], _ => .ok []
  | f :: fs, env => (f env).bind fun d => (aAll fs env).bind fun ds => .ok (d :: ds)
theorem aAll_len : ∀ {fs : List EF} {env : List (Option PyData)} {ds : List PyData}, aAll fs env = .ok ds → ds.length = fs.length
  | [], _, _, h => by cases h; rfl
  | f :: fs, env, ds, h => by
    unfold aAll at h
    cases q : f env with
    | ok d =>
      rw [q] at h
      cases q2 : aAll fs env with
      | ok es => rw [q2] at h; cases h; rw [List.length_cons, List.length_cons, aAll_len q2]
      | ex c => rw [q2] at h; cases h
      | no => rw [q2] at h; cases h
    | ex c => rw [q] at h; cases h
    | no => rw [q] at h; cases h
def PostL (K : PySem.W.Frag) (ec : Nat → Addr) (W : WX) (σ : L2.St) (G H : Hp) (Q : List V → Hp → Prop) : R (List PyData) → Prop
  | .ok ds => ∀ vs G' H', Ext G H G' H' → RepA K G' vs ds → Q vs H'
  | .ex c => ∀ H', Same H H' → W (.ref (ec c)) none σ H'
  | .no => False
def tDA (K : PySem.W.Frag) (ec : Nat → Addr) (W : WX) (fs : List EF) : TA := fun σ H Q => ∃ G env, Same G H ∧ EnvR K G σ env ∧ PostL K ec W σ G H Q (aAll fs env)
def eTup (fs : List EF) (env : List (Option PyData)) : R PyData := (aAll fs env).bind fun ds => .ok (.tuple ds)
def eLst (fs : List EF) (env : List (Option PyData)) : R PyData := (aAll fs env).bind fun ds => .ok (.list ds)
def eCall (g : List PyData → R PyData) (fs : List EF) (env : List (Option PyData)) : R PyData := (aAll fs env).bind g
section
variable {K : PySem.W.Frag} {ec : Nat → Addr} {W : WX} {σ : L2.St} {G H G' H' : Hp}
theorem PostL.mono {Q : List V → Hp → Prop} {r : R (List PyData)} (e : Ext G H G' H') (h : PostL K ec W σ G H Q r) : PostL K ec W σ G' H' Q r := by
  cases r with
  | ok d => exact fun v G2 H2 e2 p => h v G2 H2 (e.trans e2) p
  | ex c => exact fun H2 s2 => h H2 (e.h.trans s2)
  | no => exact h
/-- a list of data ahead of a datum -/
theorem PostL.bind {Q : VK} {Q' : List V → Hp → Prop} {r : R (List PyData)} {k : List PyData → R PyData} (h : Post K ec W σ G H Q (r.bind k)) (hk : ∀ vs ds G' H', r = .ok ds → Ext G H G' H' → RepA K G' vs ds → Post K ec W σ G' H' Q (k ds) → Q' vs H') : PostL K ec W σ G H Q' r := by
  cases r with
  | ok d => exact fun v G' H' e p => hk v d G' H' rfl e p (Post.mono e h)
  | ex c => exact h
  | no => exact h
theorem Post.bindL {Q : VK} {Q' : List V → Hp → Prop} {r : R PyData} {k : PyData → R (List PyData)} (h : PostL K ec W σ G H Q' (r.bind k)) (hk : ∀ v d G' H', r = .ok d → Ext G H G' H' → Rep K G' v d → PostL K ec W σ G' H' Q' (k d) → Q v H') : Post K ec W σ G H Q r := by
  cases r with
  | ok d => exact fun v G' H' e p => hk v d G' H' rfl e p (PostL.mono e h)
  | ex c => exact h
  | no => exact h
theorem PostL.bindL {Q Q' : List V → Hp → Prop} {r : R (List PyData)} {k : List PyData → R (List PyData)} (h : PostL K ec W σ G H Q (r.bind k)) (hk : ∀ vs ds G' H', r = .ok ds → Ext G H G' H' → RepA K G' vs ds → PostL K ec W σ G' H' Q (k ds) → Q' vs H') : PostL K ec W σ G H Q' r := by
  cases r with
  | ok d => exact fun v G' H' e p => hk v d G' H' rfl e p (PostL.mono e h)
  | ex c => exact h
  | no => exact h
end
section
variable {X : Cx} {ec : Nat → Addr} {W : WX} {e : Expr} {es : List Expr} {f : EF} {fs : List EF} {pos : Pos}
theorem sa_nil : PA X [] (tDA X.K ec W []) := PA_imp pa_nil fun σ H Q ⟨G, env, s, E, p⟩ => p [] G H (Ext.refl s) .nil
theorem sa_cons (ha : PE X e (tD X.K ec W f)) (hr : PA X es (tDA X.K ec W fs)) (hs : starEach (e :: es) X.env = (false, eval e X.env) :: starEach es X.env := by rfl) : PA X (e :: es) (tDA X.K ec W (f :: fs)) :=
  PA_imp (pa_cons ha hr hs) fun σ H Q ⟨G, env, s, E, p⟩ => ⟨G, env, s, E, Post.bindL p fun x dx G1 H1 _ e1 r1 p1 =>
    ⟨G1, env, e1.i, E.mono e1.g, PostL.bindL p1 fun vs ds G2 H2 _ e2 r2 p2 => p2 _ G2 H2 (Ext.refl e2.i) (.cons (r1.mono e2.g) r2)⟩⟩
theorem se_tup {k : Nat} (h : PA X es (tDA X.K ec W fs)) (hl : fs.length ≤ 1000 := by exact Nat.le_of_ble_eq_true rfl) : PE X (.Tuple es k pos) (tD X.K ec W (eTup fs)) :=
  PE_imp (pe_tup h) fun σ H Q ⟨G, env, s, E, p⟩ => ⟨G, env, s, E, PostL.bind p fun vs ds G1 H1 q e1 r1 p1 => by
    have hn : vs.length ≤ 1000 := by rw [r1.length, aAll_len q]; exact hl
    exact ⟨Nat.le_of_lt (small1000 hn), fun p n => p1 _ _ _ (Ext.new e1.i n) (ext_tup e1.i n r1)⟩⟩
theorem se_lst (h : PA X es (tDA X.K ec W fs)) (hl : fs.length ≤ 1000 := by exact Nat.le_of_ble_eq_true rfl) : PE X (.List es pos) (tD X.K ec W (eLst fs)) :=
  PE_imp (pe_lst h) fun σ H Q ⟨G, env, s, E, p⟩ => ⟨G, env, s, E, PostL.bind p fun vs ds G1 H1 q e1 r1 p1 => by
    have hn : vs.length ≤ 1000 := by rw [r1.length, aAll_len q]; exact hl
    exact ⟨Nat.le_of_lt (small1000 hn), fun p n => p1 _ _ _ (Ext.new e1.i n) (ext_list e1.i n r1)⟩⟩
/-- a built-in's rule is a function on data -/
def CallD (K : PySem.W.Frag) (r : List V → Hp → VK → Prop) (g : List PyData → R PyData) : Prop :=
  ∀ (vs : List V) (ds : List PyData) (d : PyData) (G H : Hp) (Q : VK), Same G H → RepA K G vs ds → g ds = .ok d → (∀ v G' H', Ext G H G' H' → Rep K G' v d → Q v H') → r vs H Q
def NoExL (g : List PyData → R PyData) : Prop := ∀ x c, g x ≠ .ex c
theorem tCB_D {K : PySem.W.Frag} {r : List V → Hp → VK → Prop} {g : List PyData → R PyData} (hg : CallD K r g) (hx : NoExL g) {σ : L2.St} {H : Hp} {Q : VK} : tD K ec W (eCall g fs) σ H Q → tCB r (tDA K ec W fs) σ H Q := by
  rintro ⟨G, env, s, E, p⟩
  refine ⟨G, env, s, E, PostL.bind p fun vs ds G1 H1 _ e1 r1 p1 => ?_⟩
  cases q : g ds with
  | ok d => rw [q] at p1; exact hg vs ds d G1 H1 Q e1.i r1 q p1
  | ex c => exact absurd q (hx ds c)
  | no => rw [q] at p1; exact p1.elim
variable {x : Str} {p : Pos} {id T : String} {r : List V → Hp → VK → Prop} {g : List PyData → R PyData}
theorem se_callB (hc : CallR X (.builtin id) r) (hd : CallD X.K r g) (hx : NoExL g) (hg : Gl X x) (hm : X.mg x = none) (hv : bootBuiltins x = some (.builtin id)) (ha : PA X (e :: es) (tDA X.K ec W fs)) (hn : x ≠ "__name__" := by decide) (hdb : (x == ("__debug__" : Str)) = false := by decide)
    (he : starEach (e :: es) X.env = (false, eval e X.env) :: starEach es X.env := by rfl) (hpl : (backTo pos (starEach es X.env)).any (·.1) = false := by rfl) : PE X (.Call (.Name x p) (e :: es) [] pos) (tD X.K ec W (eCall g fs)) :=
  PE_imp (pe_callB hc hg hm hv ha hn hdb he hpl) fun _ _ _ => tCB_D hd hx
theorem se_callTy (hc : CallR X (.type T) r) (hd : CallD X.K r g) (hx : NoExL g) (hg : Gl X x) (hm : X.mg x = none) (hv : bootBuiltins x = some (.type T)) (ha : PA X (e :: es) (tDA X.K ec W fs)) (hn : x ≠ "__name__" := by decide) (hdb : (x == ("__debug__" : Str)) = false := by decide)
    (he : starEach (e :: es) X.env = (false, eval e X.env) :: starEach es X.env := by rfl) (hpl : (backTo pos (starEach es X.env)).any (·.1) = false := by rfl) : PE X (.Call (.Name x p) (e :: es) [] pos) (tD X.K ec W (eCall g fs)) :=
  PE_imp (pe_callTy hc hg hm hv ha hn hdb he hpl) fun _ _ _ => tCB_D hd hx
end
end PL
/-! PL, part d: own calls, environments, statements. -/
namespace PL
open PySem PySem.Spec PyProof.Rows L2

/-! ### what a def promises -/
def PostF (K : PySem.W.Frag) (ec : Nat → Addr) (G H : Hp) (Q : VK) (E : XK) : R PyData → Prop
  | .ok d => ∀ v G' H', Ext G H G' H' → Rep K G' v d → Q v H'
  | .ex c => ∀ H', Same H H' → E (.ref (ec c)) none H'
  | .no => False
def spP (K : PySem.W.Frag) (ec : Nat → Addr) (n : Nat) (g : List PyData → R PyData) : Sp := fun vs H Q E => vs.length = n ∧ ∃ G ds, Tbs G ∧ Same G H ∧ RepA K G vs ds ∧ PostF K ec G H Q E (g ds)
/-- a def that may be called by its name -/
structure Cal (P : Program) (w : World) (K : PySem.W.Frag) (mg : Str → Option Value) (base : Heap) (ec : Nat → Addr) (x : Str) (n k : Nat) (g : List PyData → R PyData) : Prop where
  ex : ∃ (f : Addr) (fd : FuncData) (ps : List Str), FnOk P w K mg base (L2N.CX P w) k f fd ps (spP K ec n g) ∧ mg x = some (.ref f) ∧ PySem.W.keepIn K (.ref f) = true ∧ Binds K fd ps []
theorem takes0N {X : Cx} : L2N.Takes X (fun _ _ _ _ => False) := fun _ _ x => by
  obtain ⟨_, _, _, _, _, _, _, _, _, _, _, _, _, _, _, _, z⟩ := x
  exact z.elim
section
variable {X : Cx} {ec : Nat → Addr} {W : WX} {e : Expr} {es : List Expr} {fs : List EF} {pos p : Pos} {x : Str} {n k : Nat} {g : List PyData → R PyData}
theorem se_call (C : Cal X.prog X.w X.K X.mg X.base ec x n k g) (tk : L2N.Takes X W) (hr : Room k X.A) (hg : Gl X x) (ha : PA X (e :: es) (tDA X.K ec W fs)) (hl : fs.length = n := by rfl) (hdb : (x == ("__debug__" : Str)) = false := by decide)
    (he : starEach (e :: es) X.env = (false, eval e X.env) :: starEach es X.env := by rfl) (hpl : (backTo pos (starEach es X.env)).any (·.1) = false := by rfl) : PE X (.Call (.Name x p) (e :: es) [] pos) (tD X.K ec W (eCall g fs)) := by
  obtain ⟨f, fd, ps, F, hm, hk, hb⟩ := C.ex
  refine PE_imp (pe_callS (E := WE W) F hr hg hm hk hb (fun σ => L2N.passAt tk σ) ha hdb he hpl) fun σ H Q ⟨G, env, s, E, p⟩ => ?_
  refine ⟨G, env, s, E, PostL.bind p fun vs ds G1 H1 q e1 r1 p1 => ⟨by rw [r1.length, aAll_len q, hl], G1, ds, E.tb.mono e1.g, e1.i, r1, ?_⟩⟩
  cases q : g ds with
  | ok d => rw [q] at p1; exact p1
  | ex c => rw [q] at p1; exact p1
  | no => rw [q] at p1; exact p1
end

/-! ### environments of a body -/
inductive Sl where
  | no
  | pu (d : PyData)
  | ow (d : PyData)
  /-- an object of a class of the text: its class's name, its one number -/
  | ob (d : PyData)
def Sl.full : Sl → Option PyData
  | .no => none
  | .pu d => some d
  | .ow d => some d
  | .ob _ => none
def Sl.pur : Sl → Option PyData
  | .pu d => some d
  | _ => none
abbrev Ev := List Sl
def Own (K : PySem.W.Frag) (G H : Hp) (l : Addr) : PyData → Prop
  | .list ds => ∃ vs, H l = some (.lst vs) ∧ RepA K G vs ds
  | .dict ds => (∃ kvs, H l = some (.dK kvs) ∧ (kvs.map (·.1)).Nodup ∧ RepK K G kvs ds) ∨ ∃ ks es, ds = (.none, .none) :: es ∧ H l = some (DnO l ks) ∧ RepN K G ks es
  | _ => False
theorem Own.there {K : PySem.W.Frag} {G H : Hp} {l : Addr} {d : PyData} (h : Own K G H l d) : ∃ o, H l = some o ∧ ∀ G2 : Hp, Same G G2 → G2 l = some o → Rep K G2 (.ref l) d := by
  cases d with
  | list ds => obtain ⟨vs, h1, h2⟩ := h; exact ⟨_, h1, fun G2 e q => .lst (.of q) (h2.mono e)⟩
  | dict ds =>
    rcases h with ⟨vs, h1, n, h2⟩ | ⟨ks, es, rfl, h1, h2⟩
    · exact ⟨_, h1, fun G2 e q => .dct q n (h2.mono e)⟩
    · exact ⟨_, h1, fun G2 e q => .dcn q (h2.mono e)⟩
  | _ => exact h.elim
theorem Own.mono {K : PySem.W.Frag} {G H G' H' : Hp} {l : Addr} {d : PyData} (h : Own K G H l d) (g : Same G G') (e : ∀ o, H l = some o → Tame o → H' l = some o) : Own K G' H' l d := by
  cases d with
  | list ds => obtain ⟨vs, h1, h2⟩ := h; exact ⟨vs, e _ h1 (tame_lst _), h2.mono g⟩
  | dict ds =>
    rcases h with ⟨vs, h1, n, h2⟩ | ⟨ks, es, rfl, h1, h2⟩
    · exact .inl ⟨vs, e _ h1 (tame_dK _), n, h2.mono g⟩
    · exact .inr ⟨ks, es, rfl, e _ h1 (tame_Dn _ _), h2.mono g⟩
  | _ => exact h.elim
theorem Own.tame {K : PySem.W.Frag} {G H : Hp} {l : Addr} {d : PyData} (h : Own K G H l d) : ∃ u, H l = some u ∧ Tame u := by
  cases d with
  | list ds => obtain ⟨vs, h1, h2⟩ := h; exact ⟨_, h1, tame_lst _⟩
  | dict ds =>
    rcases h with ⟨vs, h1, n, h2⟩ | ⟨ks, es, rfl, h1, h2⟩
    · exact ⟨_, h1, tame_dK _⟩
    · exact ⟨_, h1, tame_Dn _ _⟩
  | _ => exact h.elim
/-- the object at l: of the class that is called so, its number -/
def ObjN (K : PySem.W.Frag) (H : Hp) (l : Addr) (d : PyData) : Prop := ∃ (cn : Str) (n : Int) (C dx : Addr), d = .tuple [.str cn, .int n, .int (l : Int)] ∧ PySem.W.nsIn K mainGlobals cn = some (some (.ref C)) ∧ H l = some (.ins C dx [(Str.ofString "many", V.int n)]) ∧ H dx = some (.own l)
theorem ObjN.mono {K : PySem.W.Frag} {H H' : Hp} {l : Addr} {d : PyData} (h : ObjN K H l d) (e : Same H H') : ObjN K H' l d := by
  obtain ⟨cn, n, C, dx, h1, h2, h3, h4⟩ := h
  exact ⟨cn, n, C, dx, h1, h2, e.ap _ _ h3 (fun _ z => by cases z), e.ap _ _ h4 (fun _ z => by cases z)⟩
theorem ObjN.upd {K : PySem.W.Frag} {H : Hp} {l m : Addr} {d : PyData} {u o : HO} (h : ObjN K H l d) (hm : H m = some u) (hu : (∃ xs, u = .lst xs) ∨ (∃ xs, u = .dK xs) ∨ ∃ a xs, u = DnO a xs) : ObjN K (L2.upd H m o) l d ∧ l ≠ m := by
  obtain ⟨cn, n, C, dx, h1, h2, h3, h4⟩ := h
  have n1 : l ≠ m := fun z => by
    subst z
    rw [h3] at hm
    cases hm
    rcases hu with ⟨_, z⟩ | ⟨_, z⟩ | ⟨_, _, z⟩ <;> first | cases z | (unfold DnO at z; cases z)
  have n2 : dx ≠ m := fun z => by
    subst z
    rw [h4] at hm
    cases hm
    rcases hu with ⟨_, z⟩ | ⟨_, z⟩ | ⟨_, _, z⟩ <;> first | cases z | (unfold DnO at z; cases z)
  exact ⟨⟨cn, n, C, dx, h1, h2, by rw [upd_ne n1]; exact h3, by rw [upd_ne n2]; exact h4⟩, n1⟩
theorem Own.kind {K : PySem.W.Frag} {G H : Hp} {l : Addr} {d : PyData} (h : Own K G H l d) : ∃ u, H l = some u ∧ ((∃ xs, u = .lst xs) ∨ (∃ xs, u = .dK xs) ∨ ∃ a xs, u = DnO a xs) := by
  cases d with
  | list ds => obtain ⟨vs, h1, h2⟩ := h; exact ⟨_, h1, .inl ⟨_, rfl⟩⟩
  | dict ds =>
    rcases h with ⟨vs, h1, n, h2⟩ | ⟨ks, es, rfl, h1, h2⟩
    · exact ⟨_, h1, .inr (.inl ⟨_, rfl⟩)⟩
    · exact ⟨_, h1, .inr (.inr ⟨_, _, rfl⟩)⟩
  | _ => exact h.elim
structure ObS (K : PySem.W.Frag) (H0 G H : Hp) (σ : L2.St) (env : Ev) : Prop where
  one : ∀ (i j : Nat) (d d' : PyData), env[i]? = some (.ob d) → env[j]? = some (.ob d') → i = j
  at' : ∀ (i : Nat) (d : PyData), env[i]? = some (.ob d) → ∃ l, σ[i]? = some (some (.ref l)) ∧ G l = none ∧ H0 l = none ∧ ObjN K H l d
structure StR (K : PySem.W.Frag) (G0 H0 G H : Hp) (σ : L2.St) (env : Ev) : Prop where
  tb : Tbs G0
  x : Ext G0 H0 G H
  len : σ.length = env.length
  pu : ∀ (i : Nat) (d : PyData), env[i]? = some (.pu d) → ∃ v, σ[i]? = some (some v) ∧ Rep K G v d
  ow : ∀ (i : Nat) (d : PyData), env[i]? = some (.ow d) → ∃ l, σ[i]? = some (some (.ref l)) ∧ G l = none ∧ H0 l = none ∧ Own K G H l d
  dj : ∀ (i j : Nat) (d d' : PyData) (l : Addr), i ≠ j → env[i]? = some (.ow d) → env[j]? = some (.ow d') → σ[i]? = some (some (.ref l)) → σ[j]? = some (some (.ref l)) → False
  ob : ObS K H0 G H σ env
section
variable {K : PySem.W.Frag} {G0 H0 G H G' H' : Hp} {σ : L2.St} {env : Ev}
theorem Ext.clean (e : Ext G H G' H') {l : Addr} {o : HO} (g : G l = none) (h : H l = some o) : G' l = none := by
  cases q : G' l with
  | none => rfl
  | some u =>
    have := e.f l (by rw [q]; simp) g
    rw [h] at this; cases this
theorem ObS.grow (S : ObS K H0 G H σ env) (e : Ext G H G' H') : ObS K H0 G' H' σ env := ⟨S.one, fun i d q => by
  obtain ⟨l, h1, h2, h3, h4⟩ := S.at' i d q
  have h4' := h4
  obtain ⟨_, _, _, _, _, _, a, _⟩ := h4'
  exact ⟨l, h1, e.clean h2 a, h3, h4.mono e.h⟩⟩
theorem StR.grow (S : StR K G0 H0 G H σ env) (e : Ext G H G' H') : StR K G0 H0 G' H' σ env :=
  ⟨S.tb, S.x.trans e, S.len, fun i d q => let ⟨v, h1, h2⟩ := S.pu i d q; ⟨v, h1, h2.mono e.g⟩,
    fun i d q => let ⟨l, h1, h2, h3, h4⟩ := S.ow i d q
      let ⟨o, ho, _⟩ := h4.there
      ⟨l, h1, e.clean h2 ho, h3, h4.mono e.g fun o q t => e.h.ap l o q t.1⟩, S.dj, S.ob.grow e⟩
theorem get_set {α : Type} {l : List α} {i j : Nat} {x y : α} (h : (l.set i x)[j]? = some y) : (j = i ∧ y = x) ∨ (j ≠ i ∧ l[j]? = some y) := by
  by_cases e : i = j
  · subst e
    by_cases hi : i < l.length
    · rw [List.getElem?_set_self hi] at h; cases h; exact .inl ⟨rfl, rfl⟩
    · rw [List.getElem?_eq_none (by simpa using hi)] at h; cases h
  · rw [List.getElem?_set_ne e] at h; exact .inr ⟨fun z => e z.symm, h⟩
theorem ObS.set {K : PySem.W.Frag} {H0 G H : Hp} {σ : L2.St} {env : Ev} (S : ObS K H0 G H σ env) (i : Nat) (v : Option V) (s : Sl) (hs : ∀ d, s ≠ .ob d) : ObS K H0 G H (σ.set i v) (env.set i s) := by
  have key : ∀ {j : Nat} {d : PyData}, (env.set i s)[j]? = some (.ob d) → j ≠ i ∧ env[j]? = some (.ob d) := fun {j d} q => by
    rcases get_set q with ⟨_, e⟩ | q
    · exact absurd e.symm (hs d)
    · exact q
  refine ⟨fun j k d d' q1 q2 => S.one j k d d' (key q1).2 (key q2).2, fun j d q => ?_⟩
  obtain ⟨hj, q⟩ := key q
  rw [List.getElem?_set_ne (Ne.symm hj)]
  exact S.at' j d q
theorem ObS.upd {K : PySem.W.Frag} {H0 G H : Hp} {σ : L2.St} {env : Ev} {m : Addr} {u o : HO} (S : ObS K H0 G H σ env) (hm : H m = some u) (hu : (∃ xs, u = .lst xs) ∨ (∃ xs, u = .dK xs) ∨ ∃ a xs, u = DnO a xs) : ObS K H0 G (L2.upd H m o) σ env := ⟨S.one, fun i d q => by
  obtain ⟨l, h1, h2, h3, h4⟩ := S.at' i d q
  exact ⟨l, h1, h2, h3, (h4.upd hm hu).1⟩⟩
theorem ObS.gup {K : PySem.W.Frag} {H0 G H : Hp} {σ : L2.St} {env : Ev} {m : Addr} {u o : HO} (S : ObS K H0 G H σ env) (hm : H m = some u) (hu : (∃ xs, u = .lst xs) ∨ (∃ xs, u = .dK xs) ∨ ∃ a xs, u = DnO a xs) : ObS K H0 (L2.upd G m o) H σ env := ⟨S.one, fun i d q => by
  obtain ⟨l, h1, h2, h3, h4⟩ := S.at' i d q
  exact ⟨l, h1, by rw [upd_ne (h4.upd (o := u) hm hu).2]; exact h2, h3, h4⟩⟩
theorem ObS.no {K : PySem.W.Frag} {H0 G H : Hp} {σ : L2.St} {env : Ev} (h : ∀ (i : Nat) (d : PyData), env[i]? ≠ some (.ob d)) : ObS K H0 G H σ env := ⟨fun i _ d _ q => absurd q (h i d), fun i d q => absurd q (h i d)⟩
theorem set_get {α : Type} {l : List α} {i : Nat} {x y : α} {m : List Sl} {s z : Sl} (hl : l.length = m.length) (h : (m.set i s)[i]? = some z) : (l.set i x)[i]? = some x := by
  have : i < m.length := by
    by_cases hi : i < m.length
    · exact hi
    · rw [List.getElem?_eq_none (by simpa using hi)] at h; cases h
  exact List.getElem?_set_self (by omega)
theorem StR.setP (S : StR K G0 H0 G H σ env) {i : Nat} {v : V} {d : PyData} (r : Rep K G v d) : StR K G0 H0 G H (σ.set i (some v)) (env.set i (.pu d)) := by
  refine ⟨S.tb, S.x, by simpa using S.len, fun j d' q => ?_, fun j d' q => ?_, fun j k d1 d2 l hjk q1 q2 h1 h2 => ?_, S.ob.set _ _ _ (fun _ z => by cases z)⟩
  · rcases get_set q with ⟨rfl, e⟩ | ⟨hj, q⟩
    · cases e
      exact ⟨v, set_get (y := some v) S.len q, r⟩
    · rw [List.getElem?_set_ne (Ne.symm hj)]; exact S.pu j d' q
  · rcases get_set q with ⟨rfl, e⟩ | ⟨hj, q⟩
    · cases e
    · rw [List.getElem?_set_ne (Ne.symm hj)]; exact S.ow j d' q
  · rcases get_set q1 with ⟨_, e⟩ | ⟨hj, q1⟩
    · cases e
    · rcases get_set q2 with ⟨_, e⟩ | ⟨hk, q2⟩
      · cases e
      · rw [List.getElem?_set_ne (Ne.symm hj)] at h1
        rw [List.getElem?_set_ne (Ne.symm hk)] at h2
        exact S.dj j k d1 d2 l hjk q1 q2 h1 h2
/-- a new owned thing at slot i -/
theorem StR.setO (S : StR K G0 H0 G H σ env) {i : Nat} {l : Addr} {d : PyData} (hg : G l = none) (h0 : H0 l = none) (o : Own K G H l d) (ap : ∀ (j : Nat) (d' : PyData), j ≠ i → env[j]? = some (.ow d') → σ[j]? = some (some (.ref l)) → False) :
    StR K G0 H0 G H (σ.set i (some (.ref l))) (env.set i (.ow d)) := by
  refine ⟨S.tb, S.x, by simpa using S.len, fun j d' q => ?_, fun j d' q => ?_, fun j k d1 d2 m hjk q1 q2 h1 h2 => ?_, S.ob.set _ _ _ (fun _ z => by cases z)⟩
  · rcases get_set q with ⟨rfl, e⟩ | ⟨hj, q⟩
    · cases e
    · rw [List.getElem?_set_ne (Ne.symm hj)]; exact S.pu j d' q
  · rcases get_set q with ⟨rfl, e⟩ | ⟨hj, q⟩
    · cases e
      exact ⟨l, set_get (y := some (V.ref l)) S.len q, hg, h0, o⟩
    · rw [List.getElem?_set_ne (Ne.symm hj)]; exact S.ow j d' q
  · rcases get_set q1 with ⟨ei, e⟩ | ⟨hj, q1'⟩
    · subst ei
      rcases get_set q2 with ⟨ek, _⟩ | ⟨hk, q2⟩
      · exact hjk ek.symm
      · rw [set_get (y := some (V.ref l)) S.len q1] at h1
        cases h1
        rw [List.getElem?_set_ne (Ne.symm hk)] at h2
        exact ap k d2 hk q2 h2
    · rw [List.getElem?_set_ne (Ne.symm hj)] at h1
      rcases get_set q2 with ⟨ek, _⟩ | ⟨hk, q2'⟩
      · subst ek
        rw [set_get (y := some (V.ref l)) S.len q2] at h2
        cases h2
        exact ap j d1 hj q1' h1
      · rw [List.getElem?_set_ne (Ne.symm hk)] at h2
        exact S.dj j k d1 d2 m hjk q1' q2' h1 h2
/-- the thing that slot i owns is changed -/
theorem StR.mut (S : StR K G0 H0 G H σ env) {i : Nat} {l : Addr} {d d' : PyData} {o : HO} (q : env[i]? = some (.ow d)) (hs : σ[i]? = some (some (.ref l))) (hn : Own K G (upd H l o) l d') : StR K G0 H0 G (upd H l o) σ (env.set i (.ow d')) := by
  obtain ⟨l', h1, h2, h3, h4⟩ := S.ow i d q
  rw [hs] at h1
  cases h1
  have neG : ∀ b u, G b = some u → b ≠ l := fun b u e z => by rw [z, h2] at e; cases e
  obtain ⟨u0, hu0, ht0⟩ := h4.tame
  refine ⟨S.tb, ⟨S.x.g, same_put S.x.h h3 hu0 ht0, same_put S.x.i h2 hu0 ht0, S.x.f⟩, by simpa using S.len, fun j d1 p => ?_, fun j d1 p => ?_, fun j k d1 d2 m hjk q1 q2 e1 e2 => ?_, ?_⟩
  · rcases get_set p with ⟨rfl, e⟩ | ⟨hj, p⟩
    · cases e
    · exact S.pu j d1 p
  · rcases get_set p with ⟨rfl, e⟩ | ⟨hj, p⟩
    · cases e
      exact ⟨l, hs, h2, h3, hn⟩
    · obtain ⟨m, a1, a2, a3, a4⟩ := S.ow j d1 p
      have hm : m ≠ l := fun z => by
        subst z
        exact S.dj j i d1 d m hj p q a1 hs
      exact ⟨m, a1, a2, a3, a4.mono (Same.refl _) fun o' e _ => by rw [upd_ne hm]; exact e⟩
  · have f : ∀ {j : Nat} {d1 : PyData}, (env.set i (Sl.ow d'))[j]? = some (Sl.ow d1) → ∃ d2, env[j]? = some (Sl.ow d2) := fun {j d1} p => by
      rcases get_set p with ⟨rfl, _⟩ | ⟨_, p⟩
      · exact ⟨d, q⟩
      · exact ⟨d1, p⟩
    obtain ⟨_, q1⟩ := f q1
    obtain ⟨_, q2⟩ := f q2
    exact S.dj j k _ _ m hjk q1 q2 e1 e2
  · obtain ⟨u1, hu1, hk1⟩ := h4.kind
    have o1 := (S.ob.upd (o := o) hu1 hk1).set i (some (V.ref l)) (.ow d') (fun _ z => by cases z)
    have e1 : σ.set i (some (V.ref l)) = σ := by
      apply List.ext_getElem?
      intro j
      by_cases hj : i = j
      · subst hj
        have : i < σ.length := (List.getElem?_eq_some_iff.mp hs).1
        rw [List.getElem?_set_self this, hs]
      · rw [List.getElem?_set_ne hj]
    rw [e1] at o1
    exact o1
/-- what slot i owns is given up: from now on it is never changed -/
def frz (i : Nat) (env : Ev) : Ev := match env[i]? with
  | some (.ow d) => env.set i (.pu d)
  | _ => env
theorem StR.frz (S : StR K G0 H0 G H σ env) (i : Nat) : ∃ G', Same G G' ∧ StR K G0 H0 G' H σ (PL.frz i env) := by
  unfold PL.frz
  split
  · rename_i d q
    obtain ⟨l, h1, h2, h3, h4⟩ := S.ow i d q
    obtain ⟨o, ho, hr⟩ := h4.there
    have g : Same G (upd G l o) := same_new h2
    refine ⟨upd G l o, g, S.tb, ⟨S.x.g.trans g, S.x.h, same_in S.x.i ho (by obtain ⟨u0, hu0, ht0⟩ := h4.tame; rw [ho] at hu0; cases hu0; exact ht0), fun b e1 e2 => ?_⟩, by simpa using S.len, fun j d1 p => ?_, fun j d1 p => ?_, fun j k d1 d2 m hjk q1 q2 e1 e2 => ?_, ?_⟩
    · by_cases hb : b = l
      · subst hb; exact h3
      · rw [upd_ne hb] at e1; exact S.x.f b e1 e2
    · rcases get_set p with ⟨rfl, e⟩ | ⟨hj, p⟩
      · cases e
        exact ⟨_, h1, hr _ g upd_same⟩
      · obtain ⟨v, a1, a2⟩ := S.pu j d1 p
        exact ⟨v, a1, a2.mono g⟩
    · rcases get_set p with ⟨rfl, e⟩ | ⟨hj, p⟩
      · cases e
      · obtain ⟨m, a1, a2, a3, a4⟩ := S.ow j d1 p
        have hm : m ≠ l := fun z => by
          subst z
          exact S.dj j i d1 d m hj p q a1 h1
        exact ⟨m, a1, by rw [upd_ne hm]; exact a2, a3, a4.mono g fun o' e _ => e⟩
    · have f : ∀ {j : Nat} {d1 : PyData}, (env.set i (Sl.pu d))[j]? = some (Sl.ow d1) → env[j]? = some (Sl.ow d1) := fun {j d1} p => by
        rcases get_set p with ⟨_, e⟩ | ⟨_, p⟩
        · cases e
        · exact p
      exact S.dj j k d1 d2 m hjk (f q1) (f q2) e1 e2
    · obtain ⟨u1, hu1, hk1⟩ := h4.kind
      have o1 := (S.ob.gup (o := o) hu1 hk1).set i (some (V.ref l)) (.pu d) (fun _ z => by cases z)
      have e1 : σ.set i (some (V.ref l)) = σ := by
        apply List.ext_getElem?
        intro j
        by_cases hj : i = j
        · subst hj
          have : i < σ.length := (List.getElem?_eq_some_iff.mp h1).1
          rw [List.getElem?_set_self this, h1]
        · rw [List.getElem?_set_ne hj]
      rw [e1] at o1
      exact o1
  · exact ⟨G, Same.refl _, S⟩
/-! the views -/
theorem StR.envP (S : StR K G0 H0 G H σ env) : EnvR K G σ (env.map Sl.pur) := ⟨S.tb.mono S.x.g, by rw [List.length_map]; exact Nat.le_of_eq S.len.symm, fun i d q => by
  rw [List.getElem?_map] at q
  cases e : env[i]? with
  | none => rw [e] at q; cases q
  | some s =>
    rw [e] at q
    cases s with
    | pu d' => cases q; exact S.pu i _ e
    | _ => cases q⟩
open Classical in
/-- the view with all that is owned -/
noncomputable def viewF (G H : Hp) (σ : L2.St) (env : Ev) : Hp := fun b => if ∃ (i : Nat) (d : PyData), env[i]? = some (.ow d) ∧ σ[i]? = some (some (.ref b)) then H b else G b
theorem StR.viewG (S : StR K G0 H0 G H σ env) : Same G (viewF G H σ env) := .all fun b o e => by
  unfold viewF
  split
  · rename_i h
    obtain ⟨i, d, q1, q2⟩ := h
    obtain ⟨l, h1, h2, _⟩ := S.ow i d q1
    rw [q2] at h1
    cases h1
    rw [h2] at e
    cases e
  · exact e
theorem StR.viewT (S : StR K G0 H0 G H σ env) {b : Addr} {u : HO} (e : viewF G H σ env b = some u) (n : ¬ Tame u) : G b = some u := by
  unfold viewF at e
  split at e
  · rename_i h
    obtain ⟨i, d, q1, q2⟩ := h
    obtain ⟨l, h1, _, _, h4⟩ := S.ow i d q1
    rw [q2] at h1
    cases h1
    obtain ⟨u0, hu0, ht0⟩ := h4.tame
    rw [e] at hu0
    cases hu0
    exact absurd ht0 n
  · exact e
theorem StR.viewH (S : StR K G0 H0 G H σ env) : Same (viewF G H σ env) H := by
  refine ⟨fun b o e k => ?_, fun b ps e => S.x.i.tb b ps (S.viewT e fun t => t.1 _ rfl), fun P ⟨ps, h1, h2, h3⟩ => S.x.i.tx P ⟨ps, S.viewT h1 fun t => t.1 _ rfl, h2, fun pos cv hc => ?_⟩⟩
  · unfold viewF at e
    split at e
    · exact e
    · exact S.x.i.ap b o e k
  · obtain ⟨c, e1, e2⟩ := h3 pos cv hc
    exact ⟨c, e1, S.viewT e2 fun t => t.2 _ _ rfl⟩
theorem StR.envF (S : StR K G0 H0 G H σ env) : EnvR K (viewF G H σ env) σ (env.map Sl.full) := ⟨(S.tb.mono S.x.g).mono S.viewG, by rw [List.length_map]; exact Nat.le_of_eq S.len.symm, fun i d q => by
  rw [List.getElem?_map] at q
  cases e : env[i]? with
  | none => rw [e] at q; cases q
  | some s =>
    rw [e] at q
    cases s with
    | no => cases q
    | pu d' =>
      cases q
      obtain ⟨v, h1, h2⟩ := S.pu i _ e
      exact ⟨v, h1, h2.mono S.viewG⟩
    | ow d' =>
      cases q
      obtain ⟨l, h1, h2, h3, h4⟩ := S.ow i _ e
      obtain ⟨o, ho, hr⟩ := h4.there
      refine ⟨_, h1, hr _ S.viewG ?_⟩
      unfold viewF
      rw [if_pos ⟨i, _, e, h1⟩]
      exact ho
    | ob d' => cases q⟩
/-- leaving the body with all that is owned -/
theorem StR.out (S : StR K G0 H0 G H σ env) (e : Ext (viewF G H σ env) H G' H') : Ext G0 H0 G' H' := by
  refine ⟨(S.x.g.trans S.viewG).trans e.g, S.x.h.trans e.h, e.i, fun b h1 h2 => ?_⟩
  cases q : viewF G H σ env b with
  | none => exact S.x.h.free (e.f b h1 q)
  | some o =>
    unfold viewF at q
    split at q
    · rename_i hx
      obtain ⟨i, d, a, c⟩ := hx
      obtain ⟨l, h1', _, h3, _⟩ := S.ow i d a
      rw [c] at h1'
      cases h1'
      exact h3
    · exact S.x.f b (by rw [q]; simp) h2
end

/-! ### expressions within a body: P (what is owned is hidden), A (all is seen, the answer is no object) -/
def atomic : PyData → Bool
  | .none => true
  | .bool _ => true
  | .int _ => true
  | .str _ => true
  | _ => false
theorem atomic_rep {K : PySem.W.Frag} {G G' : Hp} {v : V} {d : PyData} (h : Rep K G v d) (a : atomic d = true) : Rep K G' v d := by
  cases h with
  | non => exact .non
  | bl b => exact .bl b
  | int i => exact .int i
  | str x => exact .str x
  | _ => cases a
inductive Md where
  | P
  | A
def evM : Md → EF → Ev → R PyData
  | .P, f, env => f (env.map Sl.pur)
  | .A, f, env => (f (env.map Sl.full)).bind fun d => if atomic d = true then .ok d else .no
def PostE (K : PySem.W.Frag) (ec : Nat → Addr) (W : WX) (G0 H0 G : Hp) (σ : L2.St) (env : Ev) (Q : VK) : R PyData → Prop
  | .ok d => ∀ v G' H', Same G G' → StR K G0 H0 G' H' σ env → Rep K G' v d → Q v H'
  | .ex c => ∀ H', Same H0 H' → W (.ref (ec c)) none σ H'
  | .no => False
section
variable {K : PySem.W.Frag} {ec : Nat → Addr} {W : WX} {G0 H0 G H : Hp} {σ : L2.St} {env : Ev} {Q : VK}
theorem tD_M {m : Md} {f : EF} (S : StR K G0 H0 G H σ env) (h : PostE K ec W G0 H0 G σ env Q (evM m f env)) : tD K ec W f σ H Q := by
  cases m with
  | P =>
    refine ⟨G, _, S.x.i, S.envP, ?_⟩
    have h : PostE K ec W G0 H0 G σ env Q (f (env.map Sl.pur)) := h
    cases q : f (env.map Sl.pur) with
    | ok d => rw [q] at h; exact fun v G' H' e r => h v G' H' e.g (S.grow e) r
    | ex c => rw [q] at h; exact fun H' s => h H' (S.x.h.trans s)
    | no => rw [q] at h; exact h
  | A =>
    refine ⟨_, _, S.viewH, S.envF, ?_⟩
    have h : PostE K ec W G0 H0 G σ env Q ((f (env.map Sl.full)).bind fun d => if atomic d = true then .ok d else .no) := h
    cases q : f (env.map Sl.full) with
    | ok d =>
      rw [q] at h
      rw [R.bind_ok] at h
      split at h
      · rename_i ha
        exact fun v G' H' e r => h v G H' (Same.refl _) (S.grow (Ext.heap S.x.i e.h)) (atomic_rep r ha)
      · exact h.elim
    | ex c => rw [q] at h; exact fun H' s => h H' (S.x.h.trans s)
    | no => rw [q] at h; exact h
end

/-! ### statements -/
inductive Out where
  | nx (e : Ev)
  | rt (d : PyData)
  | bk (e : Ev)
  | ct (e : Ev)
  | ex (c : Nat)
  | no
abbrev SF := Ev → Out
def R.out (r : R PyData) (k : PyData → Out) : Out := match r with
  | .ok d => k d
  | .ex c => .ex c
  | .no => .no
def R.outB (r : R Bool) (k : Bool → Out) : Out := match r with
  | .ok d => k d
  | .ex c => .ex c
  | .no => .no
def R.outL (r : R (List PyData)) (k : List PyData → Out) : Out := match r with
  | .ok d => k d
  | .ex c => .ex c
  | .no => .no
@[simp] theorem R.out_ok (d : PyData) (k : PyData → Out) : (R.ok d).out k = k d := rfl
@[simp] theorem R.outB_ok (d : Bool) (k : Bool → Out) : (R.ok d).outB k = k d := rfl
@[simp] theorem R.outL_ok (d : List PyData) (k : List PyData → Out) : (R.ok d).outL k = k d := rfl
@[simp] theorem R.out_ex (c : Nat) (k : PyData → Out) : (R.ex c : R PyData).out k = .ex c := rfl
@[simp] theorem R.outB_ex (c : Nat) (k : Bool → Out) : (R.ex c : R Bool).outB k = .ex c := rfl
@[simp] theorem R.outL_ex (c : Nat) (k : List PyData → Out) : (R.ex c : R (List PyData)).outL k = .ex c := rfl
def PostS (K : PySem.W.Frag) (ec : Nat → Addr) (W : WX) (G0 H0 G : Hp) (D : Ends) : Out → Prop
  | .nx e => ∀ σ' G' H', Same G G' → StR K G0 H0 G' H' σ' e → D.nx σ' H'
  | .rt d => ∀ v G' H', Ext G0 H0 G' H' → Rep K G' v d → D.rt v H'
  | .bk e => ∀ σ' G' H', Same G G' → StR K G0 H0 G' H' σ' e → D.bk σ' H'
  | .ct e => ∀ σ' G' H', Same G G' → StR K G0 H0 G' H' σ' e → D.ct σ' H'
  | .ex c => ∀ σ' H', Same H0 H' → W (.ref (ec c)) none σ' H'
  | .no => False
def tDS (K : PySem.W.Frag) (ec : Nat → Addr) (W : WX) (G0 H0 : Hp) (f : SF) : TS := fun D σ H => ∃ G env, StR K G0 H0 G H σ env ∧ PostS K ec W G0 H0 G D (f env)
def sNil (env : Ev) : Out := .nx env
def Out.bind : Out → SF → Out
  | .nx e, k => k e
  | .rt d, _ => .rt d
  | .bk e, _ => .bk e
  | .ct e, _ => .ct e
  | .ex c, _ => .ex c
  | .no, _ => .no
@[simp] theorem Out.bind_nx (e : Ev) (k : SF) : (Out.nx e).bind k = k e := rfl
@[simp] theorem Out.bind_rt (d : PyData) (k : SF) : (Out.rt d).bind k = .rt d := rfl
@[simp] theorem Out.bind_ex (c : Nat) (k : SF) : (Out.ex c).bind k = .ex c := rfl
@[simp] theorem Out.bind_ct (e : Ev) (k : SF) : (Out.ct e).bind k = .ct e := rfl
@[simp] theorem Out.bind_bk (e : Ev) (k : SF) : (Out.bk e).bind k = .bk e := rfl
/-- behind a turn of a loop -/
def Out.loop : Out → SF → Out
  | .nx e, k => k e
  | .ct e, k => k e
  | .bk e, _ => .nx e
  | .rt d, _ => .rt d
  | .ex c, _ => .ex c
  | .no, _ => .no
@[simp] theorem Out.loop_nx (e : Ev) (k : SF) : (Out.nx e).loop k = k e := rfl
@[simp] theorem Out.loop_ct (e : Ev) (k : SF) : (Out.ct e).loop k = k e := rfl
@[simp] theorem Out.loop_bk (e : Ev) (k : SF) : (Out.bk e).loop k = .nx e := rfl
@[simp] theorem Out.loop_rt (d : PyData) (k : SF) : (Out.rt d).loop k = .rt d := rfl
@[simp] theorem Out.loop_ex (c : Nat) (k : SF) : (Out.ex c).loop k = .ex c := rfl
def sSeq (f g : SF) (env : Ev) : Out := (f env).bind g
def sRet (f : EF) (env : Ev) : Out := (f (env.map Sl.full)).out fun d => .rt d
def sRetN (_ : Ev) : Out := .rt .none
def sAsg (m : Md) (i : Nat) (f : EF) (env : Ev) : Out := (evM m f env).out fun d => .nx (env.set i (.pu d))
def sIf (t : TF) (f g : SF) (env : Ev) : Out := (t (env.map Sl.full)).outB fun b => (if b then f else g) env
def sExpr (f : EF) (env : Ev) : Out := (f (env.map Sl.full)).out fun _ => .nx env
def sBrk (env : Ev) : Out := .bk env
def sCt (env : Ev) : Out := .ct env
section
variable {K : PySem.W.Frag} {ec : Nat → Addr} {W : WX} {G0 H0 G G' H : Hp} {D : Ends} {σ : L2.St} {env : Ev}
theorem PostS.mono {o : Out} (g : Same G G') (h : PostS K ec W G0 H0 G D o) : PostS K ec W G0 H0 G' D o := by
  cases o with
  | nx e => exact fun σ' G2 H' e2 => h σ' G2 H' (g.trans e2)
  | bk e => exact fun σ' G2 H' e2 => h σ' G2 H' (g.trans e2)
  | ct e => exact fun σ' G2 H' e2 => h σ' G2 H' (g.trans e2)
  | rt d => exact h
  | ex c => exact h
  | no => exact h
theorem PostE.out {r : R PyData} {k : PyData → Out} {Q : VK} (h : PostS K ec W G0 H0 G D (r.out k)) (hk : ∀ v d G' H', r = .ok d → Same G G' → StR K G0 H0 G' H' σ env → Rep K G' v d → PostS K ec W G0 H0 G' D (k d) → Q v H') : PostE K ec W G0 H0 G σ env Q r := by
  cases r with
  | ok d => exact fun v G' H' g S r => hk v d G' H' rfl g S r (PostS.mono g h)
  | ex c => exact fun H' s => h σ H' s
  | no => exact h
/-- an expression of which all is seen, its value is not kept -/
theorem tD_F {f : EF} {k : PyData → Out} {Q : VK} (S : StR K G0 H0 G H σ env) (h : PostS K ec W G0 H0 G D ((f (env.map Sl.full)).out k)) (hk : ∀ v d G' H', Ext (viewF G H σ env) H G' H' → Rep K G' v d → PostS K ec W G0 H0 G D (k d) → Q v H') : tD K ec W f σ H Q := by
  refine ⟨_, _, S.viewH, S.envF, ?_⟩
  cases q : f (env.map Sl.full) with
  | ok d => rw [q] at h; exact fun v G' H' e r => hk v d G' H' e r h
  | ex c => rw [q] at h; exact fun H' s => h σ H' (S.x.h.trans s)
  | no => rw [q] at h; exact h
theorem tDT_F {f : TF} {k : Bool → Out} {Q : Bool → Hp → Prop} (S : StR K G0 H0 G H σ env) (h : PostS K ec W G0 H0 G D ((f (env.map Sl.full)).outB k)) (hk : ∀ b H', Same H H' → StR K G0 H0 G H' σ env → PostS K ec W G0 H0 G D (k b) → Q b H') : tDT K ec W f σ H Q := by
  refine ⟨_, _, S.viewH, S.envF, ?_⟩
  cases q : f (env.map Sl.full) with
  | ok d => rw [q] at h; exact fun H' e => hk d H' e (S.grow (Ext.heap S.x.i e)) h
  | ex c => rw [q] at h; exact fun H' s => h σ H' (S.x.h.trans s)
  | no => rw [q] at h; exact h
end
section
variable {X : Cx} {ec : Nat → Addr} {W : WX} {G0 H0 : Hp} {e c : Expr} {st : Stmt} {rest body els : List Stmt} {f g : SF} {fe : EF} {ft : TF} {pos : Pos}
theorem ss_nil : PSs X [] (tDS X.K ec W G0 H0 sNil) := PSs_imp pss_nil fun D σ H ⟨G, env, S, p⟩ => p σ G H (Same.refl _) S
theorem ss_cons (h1 : PS X st (tDS X.K ec W G0 H0 f)) (h2 : PSs X rest (tDS X.K ec W G0 H0 g)) : PSs X (st :: rest) (tDS X.K ec W G0 H0 (sSeq f g)) := by
  refine PSs_imp (pss_cons h1 h2) fun D σ H ⟨G, env, S, p⟩ => ⟨G, env, S, ?_⟩
  unfold sSeq at p
  cases q : f env with
  | nx e => rw [q] at p; exact fun σ' G' H' s' S' => ⟨G', e, S', PostS.mono s' p⟩
  | rt d => rw [q] at p; exact p
  | bk e => rw [q] at p; exact p
  | ct e => rw [q] at p; exact p
  | ex c => rw [q] at p; exact p
  | no => rw [q] at p; exact p
theorem ss_one (h1 : PS X st (tDS X.K ec W G0 H0 f)) : PSs X [st] (tDS X.K ec W G0 H0 f) := pss_one h1
/-- what slot i owns is given up ahead of the rest -/
def sFrz (i : Nat) (f : SF) (env : Ev) : Out := f (frz i env)
theorem ss_frz (i : Nat) (h : PSs X rest (tDS X.K ec W G0 H0 f)) : PSs X rest (tDS X.K ec W G0 H0 (sFrz i f)) :=
  PSs_imp h fun D σ H ⟨G, env, S, p⟩ => let ⟨G', g, S'⟩ := S.frz i; ⟨G', _, S', PostS.mono g p⟩
theorem ss_pass : PS X (.Pass pos) (tDS X.K ec W G0 H0 sNil) := PS_imp ps_pass fun D σ H ⟨G, env, S, p⟩ => p σ G H (Same.refl _) S
theorem ss_brk : PS X (.Break pos) (tDS X.K ec W G0 H0 sBrk) := PS_imp ps_break fun D σ H ⟨G, env, S, p⟩ => p σ G H (Same.refl _) S
theorem ss_ct : PS X (.Continue pos) (tDS X.K ec W G0 H0 sCt) := PS_imp ps_continue fun D σ H ⟨G, env, S, p⟩ => p σ G H (Same.refl _) S
theorem ss_ret (he : PE X e (tD X.K ec W fe)) : PS X (.Return (some e) pos) (tDS X.K ec W G0 H0 (sRet fe)) :=
  PS_imp (ps_ret he) fun D σ H ⟨G, env, S, p⟩ => tD_F S p fun v d G' H' e r p' => p' v G' H' (S.out e) r
theorem ss_retN : PS X (.Return none pos) (tDS X.K ec W G0 H0 sRetN) :=
  PS_imp ps_retN fun D σ H ⟨G, env, S, p⟩ => p _ G H S.x .non
theorem ss_expr (he : PE X e (tD X.K ec W fe)) (hs : swapsWith e none pos.line X.env = pure false := by rfl) : PS X (.Expr e pos) (tDS X.K ec W G0 H0 (sExpr fe)) :=
  PS_imp (ps_expr he hs) fun D σ H ⟨G, env, S, p⟩ => tD_F S p fun v d G' H' e r p' => p' σ G H' (Same.refl _) (S.grow (Ext.heap S.x.i e.h))
theorem ss_if (hc : PT X c (tDT X.K ec W ft)) (ha : PSs X body (tDS X.K ec W G0 H0 f)) (hb : PSs X els (tDS X.K ec W G0 H0 g)) : PS X (.If c body els pos) (tDS X.K ec W G0 H0 (sIf ft f g)) :=
  PS_imp (ps_if hc ha hb) fun D σ H ⟨G, env, S, p⟩ => tDT_F S p fun b H' _ S' p' => by
    cases b with
    | true => exact iteT ⟨G, env, S', p'⟩
    | false => exact iteF ⟨G, env, S', p'⟩
theorem ss_set (m : Md) {i : Nat} {x : Str} {pos' : Pos} (hN : X.N.Nodup) (he : PE X e (tD X.K ec W fe)) (hi : X.N[i]? = some x := by rfl) (hx : Loc X.env.scope x := by first | exact Or.inl rfl | exact Or.inr rfl) (hs : swapsWith e (some (.Name x pos')) pos.line X.env = pure false := by rfl)
    (hf : X.fn x = true ∨ X.env.scope.names.lookup x = some .local := by first | exact .inl rfl | exact .inr rfl | assumption) : PS X (.Assign [.Name x pos'] e pos) (tDS X.K ec W G0 H0 (sAsg m i fe)) :=
  PS_imp (ps_set (i := i) hN hi hx he hs hf) fun D σ H ⟨G, env, S, p⟩ => tD_M (m := m) S (PostE.out p fun v d G' H' _ g S' r p' => p' _ G' H' (Same.refl _) (S'.setP r))
end
end PL
/-! PL, part e: walks, loops, comprehensions, what is new, the body of a def. -/
namespace PL
open PySem PySem.Spec PyProof.Rows L2

/-! ### walks -/
/-- while the view G stands, J gives the data ds one after the other -/
structure WalkD (K : PySem.W.Frag) (G : Hp) (J : It) (ds : List PyData) : Prop where
  go : ∀ i H, i < ds.length → Same G H → J.go i H
  stop : ∀ H, Same G H → J.stop ds.length H
  yld : ∀ i Gc H x H' d, ds[i]? = some d → Same G Gc → Same Gc H → J.yld i H x H' → ∃ Gc', Ext Gc H Gc' H' ∧ Rep K Gc' x d
def enumF : Nat → List PyData → List PyData
  | _, [] => []
  | n, d :: ds => .tuple [.int n, d] :: enumF (n + 1) ds
theorem enumF_get : ∀ (ds : List PyData) (n i : Nat), (enumF n ds)[i]? = ds[i]?.map fun d => .tuple [.int ((n + i : Nat) : Int), d]
  | [], _, _ => by simp [enumF]
  | d :: ds, n, 0 => by simp [enumF]
  | d :: ds, n, i + 1 => by
    unfold enumF
    rw [List.getElem?_cons_succ, List.getElem?_cons_succ, enumF_get ds (n + 1) i, show n + 1 + i = n + (i + 1) by omega]
theorem enumF_len : ∀ (ds : List PyData) (n : Nat), (enumF n ds).length = ds.length
  | [], _ => rfl
  | d :: ds, n => by unfold enumF; rw [List.length_cons, List.length_cons, enumF_len ds]
def rngF (lo : Int) (n : Nat) : List PyData := (List.range n).map fun (i : Nat) => .int (lo + (i : Int))
def rngC (lo c : Int) (n : Nat) : List PyData := (List.range n).map fun (i : Nat) => .int (lo + (i : Int) * c)
def zipF (xs ys : List PyData) : List PyData := List.zipWith (fun a b => .tuple [a, b]) xs ys
def signsF (z : Str) : List PyData := z.cps.toList.map fun c => .str ⟨#[c]⟩
section
variable {K : PySem.W.Frag} {G : Hp} {a b : Addr} {xs ys : List V} {ds es : List PyData}
theorem wd_list (h : LsL K G a xs) (r : RepA K G xs ds) : WalkD K G (Itl K a) ds := by
  have hl := r.length
  refine ⟨fun i H hi s => walk_list.goes i H (by omega) ((ls_same s h).sq), fun H s => ?_, fun i Gc H x H' d q sG sH y => ?_⟩
  · have := (walk_list (K := K) (a := a) (xs := xs)).stops H ((ls_same s h).sq)
    rwa [hl] at this
  · have hi : i < ds.length := (List.getElem?_eq_some_iff.mp q).1
    obtain ⟨e, hx⟩ := walk_list.yields i H x H' (by omega) ((ls_same (sG.trans sH) h).sq) y
    obtain ⟨v, hv, rv⟩ := r.get q
    rw [hx] at hv
    cases hv
    subst e
    exact ⟨Gc, Ext.refl sH, rv.mono sG⟩
theorem wd_tup (h : SqT K G a xs) (r : RepA K G xs ds) : WalkD K G (Itt K a) ds := by
  have hl := r.length
  refine ⟨fun i H hi s => walk_tup.goes i H (by omega) (sqT_same s h), fun H s => ?_, fun i Gc H x H' d q sG sH y => ?_⟩
  · have := (walk_tup (K := K) (a := a) (xs := xs)).stops H (sqT_same s h)
    rwa [hl] at this
  · have hi : i < ds.length := (List.getElem?_eq_some_iff.mp q).1
    obtain ⟨e, hx⟩ := walk_tup.yields i H x H' (by omega) (sqT_same (sG.trans sH) h) y
    obtain ⟨v, hv, rv⟩ := r.get q
    rw [hx] at hv
    cases hv
    subst e
    exact ⟨Gc, Ext.refl sH, rv.mono sG⟩
theorem wd_range {lo : Int} {n : Nat} : WalkD K G (Itr lo n) (rngF lo n) := by
  have hl : (rngF lo n).length = n := by simp [rngF]
  refine ⟨fun i H hi s => walk_range.goes i H (by omega) trivial, fun H s => ?_, fun i Gc H x H' d q sG sH y => ?_⟩
  · rw [hl]; exact walk_range.stops H trivial
  · have hi : i < (rngF lo n).length := (List.getElem?_eq_some_iff.mp q).1
    obtain ⟨e, hx⟩ := walk_range.yields i H x H' (by omega) trivial y
    subst e hx
    have : d = .int (lo + i) := by
      rw [hl] at hi
      simp [rngF, hi] at q
      exact q.symm
    subst this
    exact ⟨Gc, Ext.refl sH, .int _⟩
theorem wd_rangeC {lo c : Int} {n : Nat} : WalkD K G (Itc lo c n) (rngC lo c n) := by
  have hl : (rngC lo c n).length = n := by simp [rngC]
  refine ⟨fun i H hi s => walk_rangeC.goes i H (by omega) trivial, fun H s => ?_, fun i Gc H x H' d q sG sH y => ?_⟩
  · rw [hl]; exact walk_rangeC.stops H trivial
  · have hi : i < (rngC lo c n).length := (List.getElem?_eq_some_iff.mp q).1
    obtain ⟨e, hx⟩ := walk_rangeC.yields i H x H' (by omega) trivial y
    subst e hx
    have : d = .int (lo + (i : Nat) * c) := by
      rw [hl] at hi
      simp [rngC, hi] at q
      exact q.symm
    subst this
    exact ⟨Gc, Ext.refl sH, .int _⟩
theorem wd_str {z : Str} : WalkD K G (Its z) (signsF z) := by
  have hl : (signsF z).length = z.cps.size := by simp [signsF]
  refine ⟨fun i H hi s => walk_str.goes i H (by omega) trivial, fun H s => ?_, fun i Gc H x H' d q sG sH y => ?_⟩
  · rw [hl]; exact walk_str.stops H trivial
  · have hi : i < (signsF z).length := (List.getElem?_eq_some_iff.mp q).1
    obtain ⟨e, c, hc, hx⟩ := walk_str.yields i H x H' (by omega) trivial y
    subst e hx
    have : d = .str ⟨#[c]⟩ := by
      simp [signsF, hc] at q
      exact q.symm
    subst this
    exact ⟨Gc, Ext.refl sH, .str _⟩
theorem pair_rep {Gc H H' : Hp} {x y v : V} {T : Addr} {d e : PyData} (s : Same Gc H) (n : H T = none) (rx : Rep K Gc x d) (ry : Rep K Gc y e) (hv : v = .ref T) (hH : H' = upd H T (.tup [x, y])) : ∃ Gc', Ext Gc H Gc' H' ∧ Rep K Gc' v (.tuple [d, e]) := by
  subst hv hH
  exact ⟨_, Ext.new s n, ext_tup s n (.cons rx (.cons ry .nil))⟩
theorem wd_enum (h : LsL K G a xs) (r : RepA K G xs ds) : WalkD K G (Ite K a) (enumF 0 ds) := by
  have hl := r.length
  have he := enumF_len ds 0
  refine ⟨fun i H hi s => walk_enum.goes i H (by omega) ((ls_same s h).sq), fun H s => ?_, fun i Gc H x H' d q sG sH y => ?_⟩
  · have := (walk_enum (K := K) (a := a) (xs := xs)).stops H ((ls_same s h).sq)
    rwa [hl, ← he] at this
  · have hi : i < (enumF 0 ds).length := (List.getElem?_eq_some_iff.mp q).1
    obtain ⟨T, u, v, e1, e2, e3, e4, e5⟩ := walk_enum.yields i H x H' (by omega) ((ls_same (sG.trans sH) h).sq) y
    rw [enumF_get] at q
    cases qd : ds[i]? with
    | none => rw [qd] at q; cases q
    | some d' =>
      rw [qd] at q
      simp only [Option.map_some, Option.some.injEq, Nat.zero_add] at q
      subst q
      obtain ⟨w, hw, rw'⟩ := r.get qd
      have e5 : xs[i]? = some v := e5
      rw [e5] at hw
      cases hw
      have e4 : some (V.int (i : Nat)) = some u := e4
      cases e4
      exact pair_rep sH e2 (.int _) (rw'.mono sG) e1 e3
theorem wd_zip (h : LsL K G a xs) (r : RepA K G xs ds) (h2 : LsL K G b ys) (r2 : RepA K G ys es) : WalkD K G (Itz K a b) (zipF ds es) := by
  have hl := r.length
  have hl2 := r2.length
  have he : (zipF ds es).length = min xs.length ys.length := by simp [zipF, hl, hl2]
  have w : Walk (Itz K a b) (zipF ds es).length (fun H => SqL K H a xs ∧ SqL K H b ys) (YPair (fun i => xs[i]?) (fun i => ys[i]?)) := walk_zip he
  have sq : ∀ H, Same G H → SqL K H a xs ∧ SqL K H b ys := fun H s => ⟨(ls_same s h).sq, (ls_same s h2).sq⟩
  refine ⟨fun i H hi s => w.goes i H hi (sq H s), fun H s => w.stops H (sq H s), fun i Gc H x H' d q sG sH y => ?_⟩
  have hi : i < (zipF ds es).length := (List.getElem?_eq_some_iff.mp q).1
  obtain ⟨T, u, v, e1, e2, e3, e4, e5⟩ := w.yields i H x H' hi (sq H (sG.trans sH)) y
  have hi2 : i < ds.length ∧ i < es.length := by omega
  have q1 : ds[i]? = some ds[i] := by simp [hi2.1]
  have q2 : es[i]? = some es[i] := by simp [hi2.2]
  have : d = .tuple [ds[i], es[i]] := by
    unfold zipF at q
    rw [List.getElem?_zipWith, q1, q2] at q
    exact (Option.some.inj q).symm
  subst this
  obtain ⟨w1, hw1, rw1⟩ := r.get q1
  obtain ⟨w2, hw2, rw2⟩ := r2.get q2
  have e4 : xs[i]? = some u := e4
  have e5 : ys[i]? = some v := e5
  rw [e4] at hw1
  rw [e5] at hw2
  cases hw1
  cases hw2
  exact pair_rep sH e2 (rw1.mono sG) (rw2.mono sG) e1 e3
end
abbrev LF := List (Option PyData) → R (List PyData)
def PostI (K : PySem.W.Frag) (ec : Nat → Addr) (W : WX) (σ : L2.St) (G H : Hp) (Q : It → Hp → Prop) : R (List PyData) → Prop
  | .ok ds => ∀ J G' H', Ext G H G' H' → WalkD K G' J ds → Q J H'
  | .ex c => ∀ H', Same H H' → W (.ref (ec c)) none σ H'
  | .no => False
def tDI (K : PySem.W.Frag) (ec : Nat → Addr) (W : WX) (f : LF) : TI := fun σ H Q => ∃ G env, Same G H ∧ EnvR K G σ env ∧ PostI K ec W σ G H Q (f env)
theorem PI_imp {X : Cx} {tg e : Expr} {t t' : TI} (h : PI X tg e t) (k : ∀ σ H Q, t' σ H Q → t σ H Q) : PI X tg e t' := ⟨fun pins s σ H Q I q => h.run pins s σ H Q I (k _ _ _ q)⟩
def itemsOf : PyData → R (List PyData)
  | .list ds => .ok ds
  | .tuple ds => .ok ds
  | .str z => .ok (signsF z)
  | _ => .no
noncomputable def rng1 : List PyData → R (List PyData)
  | [.int n] => if -lim < n ∧ n < lim then .ok (rngF 0 n.toNat) else .no
  | _ => .no
noncomputable def rng2 : List PyData → R (List PyData)
  | [.int a, .int b] => if -lim < a ∧ a < lim ∧ -lim < b ∧ b < lim then .ok (rngF a (b - a).toNat) else .no
  | _ => .no
def zip2 : List PyData → R (List PyData)
  | [.list a, .list b] => .ok (zipF a b)
  | _ => .no
def enum1 : List PyData → R (List PyData)
  | [.list a] => .ok (enumF 0 a)
  | _ => .no
def iSeq (f : EF) (env : List (Option PyData)) : R (List PyData) := (f env).bind itemsOf
def iCall (g : List PyData → R (List PyData)) (fs : List EF) (env : List (Option PyData)) : R (List PyData) := (aAll fs env).bind g
section
variable {K : PySem.W.Frag} {ec : Nat → Addr} {W : WX} {σ : L2.St} {G H : Hp} {Q : It → Hp → Prop}
theorem PostI.mono {G' H' : Hp} {r : R (List PyData)} (e : Ext G H G' H') (h : PostI K ec W σ G H Q r) : PostI K ec W σ G' H' Q r := by
  cases r with
  | ok d => exact fun v G2 H2 e2 p => h v G2 H2 (e.trans e2) p
  | ex c => exact fun H2 s2 => h H2 (e.h.trans s2)
  | no => exact h
theorem PostI.bind {Q' : VK} {r : R PyData} {k : PyData → R (List PyData)} (h : PostI K ec W σ G H Q (r.bind k)) (hk : ∀ v d G' H', r = .ok d → Ext G H G' H' → Rep K G' v d → PostI K ec W σ G' H' Q (k d) → Q' v H') : Post K ec W σ G H Q' r := by
  cases r with
  | ok d => exact fun v G' H' e p => hk v d G' H' rfl e p (PostI.mono e h)
  | ex c => exact h
  | no => exact h
theorem PostI.bindL {Q' : List V → Hp → Prop} {r : R (List PyData)} {k : List PyData → R (List PyData)} (h : PostI K ec W σ G H Q (r.bind k)) (hk : ∀ v d G' H', r = .ok d → Ext G H G' H' → RepA K G' v d → PostI K ec W σ G' H' Q (k d) → Q' v H') : PostL K ec W σ G H Q' r := by
  cases r with
  | ok d => exact fun v G' H' e p => hk v d G' H' rfl e p (PostI.mono e h)
  | ex c => exact h
  | no => exact h
end
section
variable {X : Cx} {ec : Nat → Addr} {W : WX} {tg e e2 e3 : Expr} {f : EF} {fs : List EF} {p pos tpos : Pos} {elts : List Expr} {kk : Nat}
theorem si_seq (he : PE X e (tD X.K ec W f)) : PI X tg e (tDI X.K ec W (iSeq f)) := by
  refine ⟨fun pins s σ H Q I h => ?_⟩
  obtain ⟨G, env, sg, E, p⟩ := h
  cases q : f env with
  | ex c =>
    refine (pi_list he).run pins s σ H Q I ⟨G, env, sg, E, ?_⟩
    have p : PostI X.K ec W σ G H Q ((f env).bind itemsOf) := p
    rw [q] at p ⊢
    exact p
  | no =>
    have p : PostI X.K ec W σ G H Q ((f env).bind itemsOf) := p
    rw [q] at p
    exact p.elim
  | ok d =>
    have p : PostI X.K ec W σ G H Q ((f env).bind itemsOf) := p
    cases d with
    | list ds =>
      refine (pi_list he).run pins s σ H Q I ⟨G, env, sg, E, PostI.bind p fun v d G' H' q' e1 r1 p1 => ?_⟩
      rw [q] at q'
      cases q'
      cases r1 with
      | @lst a xs _ ha r => exact ⟨a, rfl, ⟨xs, (ls_same e1.i ha).sq⟩, p1 _ G' H' (Ext.refl e1.i) (wd_list ha r)⟩
    | tuple ds =>
      refine (pi_tup he).run pins s σ H Q I ⟨G, env, sg, E, PostI.bind p fun v d G' H' q' e1 r1 p1 => ?_⟩
      rw [q] at q'
      cases q'
      cases r1 with
      | @tup a xs _ ha r => exact ⟨a, rfl, ⟨xs, sqT_same e1.i ha⟩, p1 _ G' H' (Ext.refl e1.i) (wd_tup ha r)⟩
    | str z =>
      refine (pi_str he).run pins s σ H Q I ⟨G, env, sg, E, PostI.bind p fun v d G' H' q' e1 r1 p1 => ?_⟩
      rw [q] at q'
      cases q'
      cases r1
      exact ⟨z, rfl, p1 _ G' H' (Ext.refl e1.i) wd_str⟩
    | _ => rw [q] at p; exact p.elim
theorem si_range1 (hg : Gl X "range") (hm : X.mg "range" = none) (ha : PA X [e] (tDA X.K ec W fs)) (hs : starEach [e] X.env = [(false, eval e X.env)] := by rfl) : PI X tg (.Call (.Name "range" p) [e] [] pos) (tDI X.K ec W (iCall rng1 fs)) :=
  PI_imp (pi_range1 hg hm ha hs) fun σ H Q ⟨G, env, sg, E, p⟩ => ⟨G, env, sg, E, PostI.bindL p fun vs ds G' H' q' e1 r1 p1 => by
    unfold rng1 at p1
    split at p1
    · rename_i n
      split at p1
      · rename_i hn
        cases r1 with
        | cons a b =>
          cases a
          cases b
          have hlim := lim_eq
          exact ⟨n, rfl, by omega, by omega, p1 _ G' H' (Ext.refl e1.i) wd_range⟩
      · exact p1.elim
    · exact p1.elim⟩
theorem si_range2 (hg : Gl X "range") (hm : X.mg "range" = none) (ha : PA X [e, e2] (tDA X.K ec W fs)) (hs : starEach [e, e2] X.env = [(false, eval e X.env), (false, eval e2 X.env)] := by rfl) (hs2 : starEach [e2] X.env = [(false, eval e2 X.env)] := by rfl) :
    PI X tg (.Call (.Name "range" p) [e, e2] [] pos) (tDI X.K ec W (iCall rng2 fs)) :=
  PI_imp (pi_range2 hg hm ha hs hs2) fun σ H Q ⟨G, env, sg, E, p⟩ => ⟨G, env, sg, E, PostI.bindL p fun vs ds G' H' q' e1 r1 p1 => by
    unfold rng2 at p1
    split at p1
    · rename_i n m
      split at p1
      · rename_i hn
        cases r1 with
        | cons a b =>
          cases a
          cases b with
          | cons a b =>
            cases a
            cases b
            have hlim := lim_eq
            exact ⟨n, m, rfl, ⟨by omega, by omega, by omega, by omega⟩, p1 _ G' H' (Ext.refl e1.i) wd_range⟩
      · exact p1.elim
    · exact p1.elim⟩
theorem si_enum (hg : Gl X "enumerate") (hm : X.mg "enumerate" = none) (ha : PA X [e] (tDA X.K ec W fs)) (hs : starEach [e] X.env = [(false, eval e X.env)] := by rfl) :
    PI X (.Tuple elts kk tpos) (.Call (.Name "enumerate" p) [e] [] pos) (tDI X.K ec W (iCall enum1 fs)) :=
  PI_imp (pi_enum hg hm ha hs) fun σ H Q ⟨G, env, sg, E, p⟩ => ⟨G, env, sg, E, PostI.bindL p fun vs ds G' H' q' e1 r1 p1 => by
    unfold enum1 at p1
    split at p1
    · cases r1 with
      | cons a b =>
        cases b
        cases a with
        | @lst l xs _ hl r => exact ⟨l, xs, rfl, (ls_same e1.i hl).sq, p1 _ G' H' (Ext.refl e1.i) (wd_enum hl r)⟩
    · exact p1.elim⟩
theorem si_zip (hg : Gl X "zip") (hm : X.mg "zip" = none) (ha : PA X [e, e2] (tDA X.K ec W fs)) (hs : starEach [e, e2] X.env = (false, eval e X.env) :: starEach [e2] X.env := by rfl) (hpl : (backTo pos (starEach [e2] X.env)).any (·.1) = false := by rfl) :
    PI X (.Tuple elts kk tpos) (.Call (.Name "zip" p) [e, e2] [] pos) (tDI X.K ec W (iCall zip2 fs)) :=
  PI_imp (pi_zip hg hm ha hs hpl) fun σ H Q ⟨G, env, sg, E, p⟩ => ⟨G, env, sg, E, PostI.bindL p fun vs ds G' H' q' e1 r1 p1 => by
    unfold zip2 at p1
    split at p1
    · cases r1 with
      | cons a b =>
        cases b with
        | cons b c =>
          cases c
          cases a with
          | @lst l xs _ hl r =>
            cases b with
            | @lst l2 ys _ hl2 r2 => exact ⟨l, l2, xs, ys, rfl, (ls_same e1.i hl).sq, (ls_same e1.i hl2).sq, p1 _ G' H' (Ext.refl e1.i) (wd_zip hl r hl2 r2)⟩
    · exact p1.elim⟩
end

/-! ### targets -/
abbrev GF := PyData → Ev → Option Ev
def gN (i : Nat) : GF := fun d env => some (env.set i (.pu d))
def setAll : List Nat → List PyData → Ev → Option Ev
  | [], [], env => some env
  | i :: is, d :: ds, env => setAll is ds (env.set i (.pu d))
  | _, _, _ => none
def gT (is : List Nat) : GF := fun d env => match d with
  | .tuple ds => setAll is ds env
  | _ => none
def gL (is : List Nat) : GF := fun d env => match d with
  | .list ds => setAll is ds env
  | _ => none
def tDG (K : PySem.W.Frag) (G0 H0 : Hp) (g : GF) : TG := fun v σ H Q => ∃ G env d env', StR K G0 H0 G H σ env ∧ Rep K G v d ∧ g d env = some env' ∧ ∀ σ', StR K G0 H0 G H σ' env' → Q σ' H
theorem PG_imp {X : Cx} {e : Expr} {t t' : TG} (h : PG X e t) (k : ∀ v σ H Q, t' v σ H Q → t v σ H Q) : PG X e t' := ⟨fun pins s σ H v u Q I r q => h.run pins s σ H v u Q I r (k _ _ _ _ q)⟩
/-- several names -/
def gNs : List Nat → TGs
  | [] => gNil
  | i :: is => gCons (gName i) (gNs is)
section
variable {X : Cx} {G0 H0 : Hp} {x : Str} {pos : Pos} {es : List Expr} {k n : Nat} {is : List Nat}
theorem gNs_ok {K : PySem.W.Frag} {G H : Hp} {Q : L2.St → Hp → Prop} : ∀ {is : List Nat} {ds : List PyData} {vs : List V} {σ : L2.St} {env env' : Ev}, StR K G0 H0 G H σ env → RepA K G vs ds → setAll is ds env = some env' → (∀ σ', StR K G0 H0 G H σ' env' → Q σ' H) → gNs is vs σ H Q
  | [], [], _, σ, env, env', S, r, e, q => by
    cases r
    cases e
    exact ⟨rfl, q σ S⟩
  | i :: is, d :: ds, _, σ, env, env', S, r, e, q => by
    cases r with
    | cons r1 r2 => exact ⟨_, _, rfl, gNs_ok (S.setP r1) r2 e q⟩
  | [], _ :: _, _, _, _, _, _, _, e, _ => by cases e
  | _ :: _, [], _, _, _, _, _, _, e, _ => by cases e
theorem setAll_len : ∀ {is : List Nat} {ds : List PyData} {env env' : Ev}, setAll is ds env = some env' → ds.length = is.length
  | [], [], _, _, _ => rfl
  | i :: is, d :: ds, env, env', e => by rw [List.length_cons, List.length_cons, setAll_len (is := is) (ds := ds) e]
  | [], _ :: _, _, _, e => by cases e
  | _ :: _, [], _, _, e => by cases e
theorem sg_name {i : Nat} (hN : X.N.Nodup) (hi : X.N[i]? = some x := by rfl) (hx : Loc X.env.scope x := by first | exact Or.inl rfl | exact Or.inr rfl) (hf : X.fn x = true ∨ X.env.scope.names.lookup x = some .local := by first | exact .inl rfl | exact .inr rfl | assumption) : PG X (.Name x pos) (tDG X.K G0 H0 (gN i)) :=
  PG_imp (pg_name hN hi hx hf) fun v σ H Q ⟨G, env, d, env', S, r, e, q⟩ => by
    cases e
    exact q _ (S.setP r)
theorem sn_nil : PGs X [] (gNs []) := pgs_nil
theorem sn_cons {i : Nat} (hN : X.N.Nodup) (h2 : PGs X es (gNs is)) (hi : X.N[i]? = some x := by rfl) (hx : Loc X.env.scope x := by first | exact Or.inl rfl | exact Or.inr rfl) (hf : X.fn x = true ∨ X.env.scope.names.lookup x = some .local := by first | exact .inl rfl | exact .inr rfl | assumption)
    (hs : (assignEach (.Name x pos :: es) X.env).map (·.2) = assign (.Name x pos) X.env :: (assignEach es X.env).map (·.2) := by rfl) : PGs X (.Name x pos :: es) (gNs (i :: is)) := pgs_cons (pg_name hN hi hx hf) h2 hs
theorem sg_tup (hc : X.calm = true) (h : PGs X es (gNs is)) (hn : (assignEach es X.env).length = is.length := by rfl) (hst : (assignEach es X.env).findIdx? (·.1) = none := by rfl) : PG X (.Tuple es k pos) (tDG X.K G0 H0 (gT is)) :=
  PG_imp (pg_tup hc h hn hst) fun v σ H Q ⟨G, env, d, env', S, r, e, q⟩ => by
    cases r with
    | @tup a xs ds ha r => exact ⟨a, xs, rfl, sqT_same S.x.i ha, by rw [r.length]; exact setAll_len e, gNs_ok S r e q⟩
    | _ => cases e
theorem sg_lst (hc : X.calm = true) (h : PGs X es (gNs is)) (hn : (assignEach es X.env).length = is.length := by rfl) (hst : (assignEach es X.env).findIdx? (·.1) = none := by rfl) : PG X (.Tuple es k pos) (tDG X.K G0 H0 (gL is)) :=
  PG_imp (pg_lst hc h hn hst) fun v σ H Q ⟨G, env, d, env', S, r, e, q⟩ => by
    cases r with
    | @lst a xs ds ha r => exact ⟨a, xs, rfl, (ls_same S.x.i ha).sq, by rw [r.length]; exact setAll_len e, gNs_ok S r e q⟩
    | _ => cases e
end

/-! ### loops -/
def forF (tg : GF) (body : SF) : List PyData → Ev → Out
  | [], env => .nx env
  | d :: ds, env => match tg d env with
    | none => .no
    | some e1 => (body e1).loop (forF tg body ds)
def sFor (tg : GF) (fi : LF) (body : SF) (env : Ev) : Out := (fi (env.map Sl.pur)).outL fun ds => forF tg body ds env
def whileF (t : TF) (body : SF) : Nat → Ev → Out
  | 0, _ => .no
  | n + 1, env => (t (env.map Sl.full)).outB fun b => if b then (body env).loop (whileF t body n) else .nx env
def sWhile (n : Nat) (t : TF) (body : SF) (env : Ev) : Out := whileF t body n env
def sAsgT (m : Md) (tg : GF) (f : EF) (env : Ev) : Out := (evM m f env).out fun d => match tg d env with
  | none => .no
  | some e => .nx e
section
variable {X : Cx} {ec : Nat → Addr} {W : WX} {G0 H0 : Hp} {tg iter e c : Expr} {body : List Stmt} {g : GF} {fi : LF} {fe : EF} {ft : TF} {fb : SF} {pos : Pos}
theorem ss_asgT (m : Md) (he : PE X e (tD X.K ec W fe)) (hg : PG X tg (tDG X.K G0 H0 g)) (hs : swapsWithSole [tg] e pos.line X.env = pure false := by rfl) (hw : swappedStores [tg] e X.env = pure none := by rfl)
    (h1 : (assignEach [tg] X.env).map (·.2) = [assign tg X.env] := by rfl) : PS X (.Assign [tg] e pos) (tDS X.K ec W G0 H0 (sAsgT m g fe)) :=
  PS_imp (ps_asg he hg hs hw h1) fun D σ H ⟨G, env, S, p⟩ => tD_M (m := m) S (PostE.out p fun v d G' H' _ gg S' r p' => by
    cases q : g d env with
    | none => rw [q] at p'; exact p'.elim
    | some e' => rw [q] at p'; exact ⟨G', env, d, e', S', r, q, fun σ' S2 => p' σ' G' H' (Same.refl _) S2⟩)
theorem ss_for (hp : PassesOwn (model X.prog X.w) X.A X.env X.xe) (hc : X.calm = true) (hi : PI X tg iter (tDI X.K ec W fi)) (hg : PG X tg (tDG X.K G0 H0 g)) (hb : PSs X body (tDS X.K ec W G0 H0 fb))
    (hs : ∀ x, foldedSetIterable iter X.env x = pure x := by intro _; rfl) : PS X (.For tg iter body [] pos) (tDS X.K ec W G0 H0 (sFor g fi fb)) := by
  refine PS_imp (ps_for hp hc hi hg hb hs) fun D σ H ⟨G, env, S, p⟩ => ⟨G, _, S.x.i, S.envP, ?_⟩
  unfold sFor at p
  cases q : fi (env.map Sl.pur) with
  | ex c => rw [q] at p; exact fun H' s => p σ H' (S.x.h.trans s)
  | no => rw [q] at p; exact p
  | ok ds =>
    rw [q] at p
    intro J G1 H1 e1 w
    have wk : Walk J ds.length (fun H => Same G1 H) (fun i H x H' => ∀ Gc d, ds[i]? = some d → Same G1 Gc → Same Gc H → ∃ Gc', Ext Gc H Gc' H' ∧ Rep X.K Gc' x d) :=
      ⟨fun i H hi s => w.go i H hi s, fun H s => w.stop H s, fun i H x H' hi s y Gc d hd s1 s2 => w.yld i Gc H x H' d hd s1 s2 y⟩
    refine for_it wk (fun i σ H => ∃ G2 env2, Same G1 G2 ∧ StR X.K G0 H0 G2 H σ env2 ∧ PostS X.K ec W G0 H0 G2 D (forF g fb (ds.drop i) env2)) ⟨G1, env, Same.refl _, S.grow e1, PostS.mono e1.g p⟩ ?_ ?_ ?_
    · rintro i σ H _ ⟨G2, env2, s2, S2, _⟩
      exact s2.trans S2.x.i
    · rintro i x σ H H' hi ⟨G2, env2, s2, S2, p2⟩ y
      have hd : ds[i]? = some ds[i] := by simp [hi]
      obtain ⟨G3, e3, r3⟩ := y G2 ds[i] hd s2 S2.x.i
      rw [List.drop_eq_getElem_cons hi] at p2
      unfold forF at p2
      cases qg : g ds[i] env2 with
      | none => rw [qg] at p2; exact p2.elim
      | some env3 =>
        rw [qg] at p2
        refine ⟨G3, env2, _, env3, S2.grow e3, r3, qg, fun σ' S4 => ⟨G3, env3, S4, ?_⟩⟩
        dsimp only at p2
        cases qb : fb env3 with
        | nx e => rw [qb] at p2; exact fun σ5 G5 H5 s5 S5 => ⟨G5, e, (s2.trans e3.g).trans s5, S5, PostS.mono (e3.g.trans s5) p2⟩
        | ct e => rw [qb] at p2; exact fun σ5 G5 H5 s5 S5 => ⟨G5, e, (s2.trans e3.g).trans s5, S5, PostS.mono (e3.g.trans s5) p2⟩
        | bk e => rw [qb] at p2; exact fun σ5 G5 H5 s5 S5 => p2 σ5 G5 H5 (e3.g.trans s5) S5
        | rt d => rw [qb] at p2; exact p2
        | ex c => rw [qb] at p2; exact p2
        | no => rw [qb] at p2; exact p2
    · rintro σ H ⟨G2, env2, s2, S2, p2⟩
      rw [List.drop_length] at p2
      exact p2 σ G2 H (Same.refl _) S2
theorem ss_while (n : Nat) (hp : PassesOwn (model X.prog X.w) X.A X.env X.xe) (hc : PT X c (tDT X.K ec W ft)) (hb : PSs X body (tDS X.K ec W G0 H0 fb)) : PS X (.While c body [] pos) (tDS X.K ec W G0 H0 (sWhile n ft fb)) := by
  refine PS_imp (ps_while hp hc hb) fun D σ H ⟨G, env, S, p⟩ => ?_
  refine ⟨fun m σ H => ∃ G env, StR X.K G0 H0 G H σ env ∧ PostS X.K ec W G0 H0 G D (whileF ft fb m env), ⟨n, G, env, S, p⟩, ?_⟩
  rintro m σ H ⟨G, env, S, p⟩
  cases m with
  | zero => exact p.elim
  | succ m =>
    unfold whileF at p
    refine tDT_F S p fun b H1 s1 S1 p1 => ?_
    cases b with
    | false => exact iteF (p1 σ G H1 (Same.refl _) S1)
    | true =>
      refine iteT ⟨fun σ H => ∃ G env, StR X.K G0 H0 G H σ env ∧ PostS X.K ec W G0 H0 G D (whileF ft fb m env), fun σ' H' h => ⟨m, Nat.lt_succ_self _, h⟩, ⟨G, env, S1, ?_⟩⟩
      rw [if_pos rfl] at p1
      cases qb : fb env with
      | nx e => rw [qb] at p1; exact fun σ5 G5 H5 s5 S5 => ⟨G5, e, S5, PostS.mono s5 p1⟩
      | ct e => rw [qb] at p1; exact fun σ5 G5 H5 s5 S5 => ⟨G5, e, S5, PostS.mono s5 p1⟩
      | bk e => rw [qb] at p1; exact fun σ5 G5 H5 s5 S5 => p1 σ5 G5 H5 s5 S5
      | rt d => rw [qb] at p1; exact p1
      | ex c => rw [qb] at p1; exact p1
      | no => rw [qb] at p1; exact p1
end

/-! ### the body of a def -/
def entry (n : Nat) (ds : List PyData) : Ev := ds.map Sl.pu ++ List.replicate (n - ds.length) Sl.no
def Out.res : Out → R PyData
  | .nx _ => .ok .none
  | .rt d => .ok d
  | .ex c => .ex c
  | _ => .no
/-- what a def is worth: n its slots, f its body -/
def runB (n : Nat) (f : SF) (ds : List PyData) : R PyData := (f (entry n ds)).res
theorem start_ok {K : PySem.W.Frag} {N : List Str} {vs : List V} {ds : List PyData} {G H : Hp} (t : Tbs G) (i : Same G H) (r : RepA K G vs ds) : StR K G H G H (start N vs) (entry N.length ds) := by
  have hl := r.length
  have key : ∀ (j : Nat) (s : Sl), (entry N.length ds)[j]? = some s → (∃ d, s = .pu d ∧ ds[j]? = some d) ∨ s = .no := fun j s q => by
    unfold entry at q
    by_cases hj : j < ds.length
    · rw [List.getElem?_append_left (by simpa using hj), List.getElem?_map] at q
      cases e : ds[j]? with
      | none => rw [e] at q; cases q
      | some d => rw [e] at q; cases q; exact .inl ⟨d, rfl, rfl⟩
    · rw [List.getElem?_append_right (by simpa using hj), List.getElem?_replicate] at q
      split at q
      · cases q; exact .inr rfl
      · cases q
  refine ⟨t, Ext.refl i, by unfold L2.start entry; simp [hl], fun j d q => ?_, fun j d q => ?_, fun j k d d' l _ q => ?_, ObS.no fun j d q => ?_⟩
  · rcases key j _ q with ⟨d', e, q'⟩ | e
    · cases e
      obtain ⟨v, hv, rv⟩ := r.get q'
      refine ⟨v, ?_, rv⟩
      have hj : j < vs.length := (List.getElem?_eq_some_iff.mp hv).1
      unfold L2.start
      rw [List.getElem?_append_left (by simpa using hj), List.getElem?_map, hv]
      rfl
    · cases e
  · rcases key j _ q with ⟨d', e, _⟩ | e <;> cases e
  · rcases key j _ q with ⟨d', e, _⟩ | e <;> cases e
  · rcases key j _ q with ⟨d', e, _⟩ | e <;> cases e
section
variable {P : Program} {w : World} {K : PySem.W.Frag} {mg : Str → Option Value} {base : Heap}
theorem fn_pure {ec : Nat → Addr} {x qual : Str} {st : Stmt} {f : Addr} {fd : FuncData} {N ps : List Str} {k n : Nat} {fb : SF} (F : Fun K x qual st f fd) (S : FnScope N ps (defScope st)) (hn : ps.length = n)
    (hbody : ∀ (cdv : Value) (A : Around) (outer : List Env) (s : Shared) (G0 H : Hp) (E : XK), Same G0 H → Room k (A.deeper (envOfC qual (defScope st) s.heap.objs.size f cdv)) →
      PSs (cxOf (L2N.CX P w) P w K mg base N qual (defScope st) f cdv A outer s H E) (defBody st) (tDS K ec (fun cls d _ H => E cls d H) G0 H fb)) :
    FnOk P w K mg base (L2N.CX P w) (k + 1) f fd ps (spP K ec n (runB N.length fb)) := by
  obtain ⟨oc, od, kV, doc, pm, an, cdv, ct, osl, rfl, lk, hcd⟩ := F.ex
  refine fn_of lk hcd S (fun vs H Q E h => by rw [h.1, hn]) fun A outer s H vs Q E hr h => ?_
  obtain ⟨hl, G, ds, t, i, r, p⟩ := h
  refine ⟨_, hbody cdv A outer s G H E i hr, G, _, start_ok t i r, ?_⟩
  unfold runB at p
  cases q : fb (entry N.length ds) with
  | nx e => rw [q] at p; exact fun σ' G' H' g S' => p _ G' H' S'.x .non
  | rt d => rw [q] at p; exact p
  | ex c => rw [q] at p; exact fun _ H' s => p H' s
  | bk e => rw [q] at p; exact p.elim
  | ct e => rw [q] at p; exact p.elim
  | no => rw [q] at p; exact p.elim
end
end PL
/-! PL, part f: what is new and owned, comprehensions, changes of what is owned. -/
namespace PL
open PySem PySem.Spec PyProof.Rows L2

/-! ### new things -/
def PostN (K : PySem.W.Frag) (ec : Nat → Addr) (W : WX) (σ : L2.St) (G H : Hp) (Q : VK) : R PyData → Prop
  | .ok d => ∀ l G' H', Ext G H G' H' → H l = none → G' l = none → Own K G' H' l d → Q (.ref l) H'
  | .ex c => ∀ H', Same H H' → W (.ref (ec c)) none σ H'
  | .no => False
def tDN (K : PySem.W.Frag) (ec : Nat → Addr) (W : WX) (f : EF) : TE := fun σ H Q => ∃ G env, Same G H ∧ EnvR K G σ env ∧ PostN K ec W σ G H Q (f env)
section
variable {K : PySem.W.Frag} {ec : Nat → Addr} {W : WX} {σ : L2.St} {G H G' H' : Hp} {Q : VK}
theorem PostN.mono {r : R PyData} (e : Ext G H G' H') (h : PostN K ec W σ G H Q r) : PostN K ec W σ G' H' Q r := by
  cases r with
  | ok d => exact fun l G2 H2 e2 n g o => h l G2 H2 (e.trans e2) (e.h.free n) g o
  | ex c => exact fun H2 s2 => h H2 (e.h.trans s2)
  | no => exact h
theorem PostN.bindL {Q' : List V → Hp → Prop} {r : R (List PyData)} {k : List PyData → R PyData} (h : PostN K ec W σ G H Q (r.bind k)) (hk : ∀ vs ds G' H', r = .ok ds → Ext G H G' H' → RepA K G' vs ds → PostN K ec W σ G' H' Q (k ds) → Q' vs H') : PostL K ec W σ G H Q' r := by
  cases r with
  | ok d => exact fun v G' H' e p => hk v d G' H' rfl e p (PostN.mono e h)
  | ex c => exact h
  | no => exact h
theorem PostN.bindI {Q' : It → Hp → Prop} {r : R (List PyData)} {k : List PyData → R PyData} (h : PostN K ec W σ G H Q (r.bind k)) (hk : ∀ J ds G' H', r = .ok ds → Ext G H G' H' → WalkD K G' J ds → PostN K ec W σ G' H' Q (k ds) → Q' J H') : PostI K ec W σ G H Q' r := by
  cases r with
  | ok d => exact fun v G' H' e p => hk v d G' H' rfl e p (PostN.mono e h)
  | ex c => exact h
  | no => exact h
theorem Post.new {r : R PyData} (i : Same G H) (h : Post K ec W σ G H Q r) : PostN K ec W σ G H Q r := by
  cases r with
  | ok d =>
    intro l G' H' e n g o
    obtain ⟨u, hu, hr⟩ := o.there
    have s : Same G' (upd G' l u) := same_new g
    refine h _ (upd G' l u) H' ⟨e.g.trans s, e.h, same_in e.i hu (by obtain ⟨u0, hu0, ht0⟩ := o.tame; rw [hu] at hu0; cases hu0; exact ht0), fun b h1 h2 => ?_⟩ (hr _ s upd_same)
    · by_cases hb : b = l
      · subst hb; exact n
      · rw [upd_ne hb] at h1; exact e.f b h1 h2
  | ex c => exact h
  | no => exact h
end
section
variable {X : Cx} {ec : Nat → Addr} {W : WX} {e a b : Expr} {es : List Expr} {f : EF} {fs : List EF} {pos : Pos}
theorem se_new (h : PE X e (tDN X.K ec W f)) : PE X e (tD X.K ec W f) := PE_imp h fun σ H Q ⟨G, env, s, E, p⟩ => ⟨G, env, s, E, Post.new s p⟩
theorem own_new {K : PySem.W.Frag} {G H : Hp} {vs : List V} {ds : List PyData} {l : Addr} (r : RepA K G vs ds) : Own K G (upd H l (.lst vs)) l (.list ds) := ⟨vs, upd_same, r⟩
theorem sn_lst (h : PA X es (tDA X.K ec W fs)) (hl : fs.length ≤ 1000 := by exact Nat.le_of_ble_eq_true rfl) : PE X (.List es pos) (tDN X.K ec W (eLst fs)) :=
  PE_imp (pe_lst h) fun σ H Q ⟨G, env, s, E, p⟩ => ⟨G, env, s, E, PostN.bindL p fun vs ds G1 H1 q e1 r1 p1 => by
    have hn : vs.length ≤ 1000 := by rw [r1.length, aAll_len q]; exact hl
    exact ⟨Nat.le_of_lt (small1000 hn), fun l n => p1 l G1 _ (Ext.heap e1.i (same_new n)) n (e1.i.free n) (own_new r1)⟩⟩
end

/-! ### comprehensions -/
abbrev GE := PyData → List (Option PyData) → Option (List (Option PyData))
def cN (i : Nat) : GE := fun d env => some (env.set i (some d))
def setE : List Nat → List PyData → List (Option PyData) → Option (List (Option PyData))
  | [], [], env => some env
  | i :: is, d :: ds, env => setE is ds (env.set i (some d))
  | _, _, _ => none
def cT (is : List Nat) : GE := fun d env => match d with
  | .tuple ds => setE is ds env
  | _ => none
def lcF (tg : GE) (tt : TF) (te : EF) : List PyData → List (Option PyData) → R (List PyData)
  | [], _ => .ok []
  | d :: ds, env => match tg d env with
    | none => .no
    | some e1 => (tt e1).bind fun b => if b then (te e1).bind fun y => (lcF tg tt te ds env).bind fun ys => .ok (y :: ys) else lcF tg tt te ds env
def R.sure {α : Type} : R α → R α
  | .ok a => .ok a
  | _ => .no
@[simp] theorem R.sure_ok {α : Type} (a : α) : (R.ok a).sure = .ok a := rfl
noncomputable def lcE (ys : List PyData) : R PyData := if ys.length < szl then .ok (.list ys) else .no
noncomputable def eLc (tg : GE) (fi : LF) (tt : TF) (te : EF) (env : List (Option PyData)) : R PyData := (fi env).bind fun ds => ((lcF tg tt te ds env).sure).bind lcE
def bYes (_ : List (Option PyData)) : R Bool := .ok true
abbrev WNo : WX := fun _ _ _ _ => False

theorem wipe_get (σ : L2.St) (j : Nat) : ∀ vs : List Nat, (wipe σ vs)[j]? = if j ∈ vs then (σ[j]?).map (fun _ => none) else σ[j]?
  | [] => by simp [wipe]
  | v :: vs => by
    unfold wipe
    rw [List.getElem?_set, wipe_get σ j vs, wipe_length]
    by_cases h : v = j
    · subst h
      simp only [List.mem_cons_self, if_true]
      by_cases hl : v < σ.length
      · simp [hl]
      · simp [hl]
    · have hj : ¬ j = v := fun e => h e.symm
      simp only [List.mem_cons, hj, false_or, if_neg h]
theorem wipe_set (σ : L2.St) (i : Nat) (x : Option V) (vs : List Nat) (h : i ∈ vs) : wipe (σ.set i x) vs = wipe σ vs := by
  apply List.ext_getElem?
  intro j
  rw [wipe_get, wipe_get, List.getElem?_set]
  by_cases e : i = j
  · subst e
    simp only [h, if_true]
    by_cases hl : i < σ.length
    · simp [hl]
    · simp [hl]
  · simp only [if_neg e]
theorem wipe_wipe (σ : L2.St) (vs : List Nat) : wipe (wipe σ vs) vs = wipe σ vs := by
  apply List.ext_getElem?
  intro j
  rw [wipe_get, wipe_get]
  by_cases h : j ∈ vs
  · simp only [h, if_true]
    cases σ[j]? <;> rfl
  · simp only [h, if_false]
/-- env but for the slots of rest -/
def EnvX (K : PySem.W.Frag) (G : Hp) (σ : L2.St) (env : List (Option PyData)) (rest : List Nat) : Prop := env.length ≤ σ.length ∧ ∀ (i : Nat) (d : PyData), i ∉ rest → env[i]? = some (some d) → ∃ v, σ[i]? = some (some v) ∧ Rep K G v d
theorem EnvX.start {K : PySem.W.Frag} {G : Hp} {σ : L2.St} {env : List (Option PyData)} {vs : List Nat} (E : EnvR K G σ env) : EnvX K G (wipe σ vs) env vs :=
  ⟨by rw [wipe_length]; exact E.len, fun i d hi q => by rw [wipe_get, if_neg hi]; exact E.at' i d q⟩
theorem EnvX.set {K : PySem.W.Frag} {G : Hp} {σ : L2.St} {env : List (Option PyData)} {i : Nat} {rest : List Nat} {v : V} {d : PyData} (E : EnvX K G σ env (i :: rest)) (r : Rep K G v d) : EnvX K G (σ.set i (some v)) (env.set i (some d)) rest := by
  refine ⟨by rw [List.length_set, List.length_set]; exact E.1, fun j d' hj q => ?_⟩
  by_cases e : i = j
  · subst e
    have hl : i < env.length := by
      by_cases hl : i < env.length
      · exact hl
      · rw [List.getElem?_eq_none (by simpa using hl)] at q; cases q
    rw [List.getElem?_set_self hl] at q
    cases q
    exact ⟨v, List.getElem?_set_self (Nat.lt_of_lt_of_le hl E.1), r⟩
  · rw [List.getElem?_set_ne e] at q ⊢
    exact E.2 j d' (by simp only [List.mem_cons, not_or]; exact ⟨fun z => e z.symm, hj⟩) q
theorem EnvX.done {K : PySem.W.Frag} {G : Hp} {σ : L2.St} {env : List (Option PyData)} (t : Tbs G) (E : EnvX K G σ env []) : EnvR K G σ env := ⟨t, E.1, fun i d => E.2 i d (by simp)⟩
/-- the target's rule g does on slots what tg does on data -/
def TgOk (K : PySem.W.Frag) (vs : List Nat) (g : TG) (tg : GE) : Prop :=
  ∀ (G H : Hp) (σ : L2.St) (env env' : List (Option PyData)) (v : V) (d : PyData) (Q : L2.St → Hp → Prop), Same G H → EnvR K G σ env → Rep K G v d → tg d env = some env' →
    (∀ σ2, wipe σ2 vs = wipe σ vs → EnvR K G σ2 env' → Q σ2 H) → g v (wipe σ vs) H Q
theorem tg_name {K : PySem.W.Frag} {i : Nat} : TgOk K [i] (gName i) (cN i) := by
  intro G H σ env env' v d Q s E r e q
  cases e
  exact q _ (by rw [wipe_set _ _ _ _ (by simp), wipe_wipe]) (EnvX.done E.tb ((EnvX.start E).set r))
theorem tg_names {K : PySem.W.Frag} {vs : List Nat} {σ0 : L2.St} {G H : Hp} {Q : L2.St → Hp → Prop} : ∀ {is : List Nat} {ds : List PyData} {xs : List V} {σ : L2.St} {env env' : List (Option PyData)}, Tbs G → (∀ i ∈ is, i ∈ vs) → wipe σ vs = wipe σ0 vs → EnvX K G σ env is → RepA K G xs ds → setE is ds env = some env' →
    (∀ σ2, wipe σ2 vs = wipe σ0 vs → EnvR K G σ2 env' → Q σ2 H) → gNs is xs σ H Q
  | [], [], _, σ, env, env', t, _, hw, E, r, e, q => by
    cases r
    cases e
    exact ⟨rfl, q σ hw (E.done t)⟩
  | i :: is, d :: ds, _, σ, env, env', t, hi, hw, E, r, e, q => by
    cases r with
    | cons r1 r2 => exact ⟨_, _, rfl, tg_names t (fun j hj => hi j (List.mem_cons_of_mem _ hj)) (by rw [wipe_set _ _ _ _ (hi i List.mem_cons_self), hw]) (E.set r1) r2 e q⟩
  | [], _ :: _, _, _, _, _, _, _, _, _, _, e, _ => by cases e
  | _ :: _, [], _, _, _, _, _, _, _, _, _, e, _ => by cases e
theorem setE_len : ∀ {is : List Nat} {ds : List PyData} {env env' : List (Option PyData)}, setE is ds env = some env' → ds.length = is.length
  | [], [], _, _, _ => rfl
  | i :: is, d :: ds, env, env', e => by rw [List.length_cons, List.length_cons, setE_len (is := is) (ds := ds) e]
  | [], _ :: _, _, _, e => by cases e
  | _ :: _, [], _, _, e => by cases e
theorem tg_tuple {K : PySem.W.Frag} {is : List Nat} : TgOk K is (gTup K is.length (gNs is)) (cT is) := by
  intro G H σ env env' v d Q s E r e q
  cases r with
  | @tup a xs ds ha r => exact ⟨a, xs, rfl, sqT_same s ha, by rw [r.length]; exact setE_len e, tg_names E.tb (fun i hi => hi) (by rw [wipe_wipe]) (EnvX.start E) r e q⟩
  | _ => cases e
theorem lcF_len {tg : GE} {tt : TF} {te : EF} : ∀ {ds : List PyData} {env : List (Option PyData)} {d : PyData} {env' : List (Option PyData)} {ys : List PyData}, lcF tg tt te (d :: ds) env = .ok ys → tg d env = some env' →
    (tt env' = .ok false ∧ lcF tg tt te ds env = .ok ys) ∨ (tt env' = .ok true ∧ ∃ y zs, te env' = .ok y ∧ lcF tg tt te ds env = .ok zs ∧ ys = y :: zs) := by
  intro ds env d env' ys h e
  unfold lcF at h
  rw [e] at h
  dsimp only at h
  cases q : tt env' with
  | ok b =>
    rw [q] at h
    rw [R.bind_ok] at h
    cases b with
    | false => exact .inl ⟨rfl, h⟩
    | true =>
      rw [if_pos rfl] at h
      cases q2 : te env' with
      | ok y =>
        rw [q2] at h
        rw [R.bind_ok] at h
        cases q3 : lcF tg tt te ds env with
        | ok zs => rw [q3] at h; cases h; exact .inr ⟨rfl, y, zs, rfl, rfl, rfl⟩
        | ex c => rw [q3] at h; cases h
        | no => rw [q3] at h; cases h
      | ex c => rw [q2] at h; cases h
      | no => rw [q2] at h; cases h
  | ex c => rw [q] at h; cases h
  | no => rw [q] at h; cases h
theorem tLc_N {K : PySem.W.Frag} {ec : Nat → Addr} {W : WX} {fi : LF} {g : TG} {tg : GE} {tt : TF} {te : EF} {vs : List Nat} (tk : TgOk K vs g tg) {σ : L2.St} {H : Hp} {Q : VK} :
    tDN K ec W (eLc tg fi tt te) σ H Q → tLc (tDI K ec W fi) g (tDT K ec WNo tt) (tD K ec WNo te) vs σ H Q := by
  rintro ⟨G, env, s, E, p⟩
  refine ⟨G, env, s, E, PostN.bindI p fun J ds G1 H1 q e1 w p1 D hD => ?_⟩
  cases ql : lcF tg tt te ds env with
  | ex c => rw [ql] at p1; exact p1.elim
  | no => rw [ql] at p1; exact p1.elim
  | ok ys =>
    rw [ql, R.sure_ok, R.bind_ok] at p1
    unfold lcE at p1
    split at p1
    · rename_i hsz
      have gD : G1 D = none := e1.i.free hD
      have wk : Walk J ds.length (fun H => Same G1 H) (fun i H x H' => ∀ Gc d, ds[i]? = some d → Same G1 Gc → Same Gc H → ∃ Gc', Ext Gc H Gc' H' ∧ Rep K Gc' x d) :=
        ⟨fun i H hi s => w.go i H hi s, fun H s => w.stop H s, fun i H x H' hi s y Gc d hd s1 s2 => w.yld i Gc H x H' d hd s1 s2 y⟩
      refine lc_it wk (fun i H => ∃ G2 acc us zs, Ext G1 H1 G2 H ∧ G2 D = none ∧ H D = some (.lst acc) ∧ RepA K G2 acc us ∧ lcF tg tt te (ds.drop i) env = .ok zs ∧ ys = us ++ zs)
        ⟨G1, [], [], ys, Ext.heap e1.i (same_new hD), gD, upd_same, .nil, ql, rfl⟩ ?_ ?_ ?_
      · rintro i H _ ⟨G2, acc, us, zs, e2, _⟩
        exact e2.g.trans e2.i
      · rintro i x H H' hi ⟨G2, acc, us, zs, e2, g2, hd2, r2, l2, hy⟩ y
        have hd : ds[i]? = some ds[i] := by simp [hi]
        obtain ⟨G3, e3, r3⟩ := y G2 ds[i] hd e2.g e2.i
        rw [List.drop_eq_getElem_cons hi] at l2
        cases qg : tg ds[i] env with
        | none => unfold lcF at l2; rw [qg] at l2; cases l2
        | some env3 =>
          have g3 : G3 D = none := e3.clean g2 hd2
          refine tk G3 H' σ env env3 x ds[i] _ e3.i (E.mono (e1.g.trans (e2.g.trans e3.g))) r3 qg fun σ2 hw E2 => ⟨hw, ?_⟩
          rcases lcF_len l2 qg with ⟨t0, l3⟩ | ⟨t0, y0, zs0, ty, l3, ez⟩
          · refine ⟨G3, env3, e3.i, E2, ?_⟩
            rw [t0]
            intro H4 s4
            refine iteF ⟨G3, acc, us, zs, (e2.trans e3).trans (Ext.heap e3.i s4), g3, s4.lst (e3.h.lst hd2), r2.mono e3.g, l3, hy⟩
          · refine ⟨G3, env3, e3.i, E2, ?_⟩
            rw [t0]
            intro H4 s4
            refine iteT ⟨G3, env3, e3.i.trans s4, E2, ?_⟩
            rw [ty]
            intro v G5 H5 e5 r5
            have hd5 : H5 D = some (.lst acc) := e5.h.lst (s4.lst (e3.h.lst hd2))
            have g5 : G5 D = none := e5.clean g3 (s4.lst (e3.h.lst hd2))
            have hacc : acc.length < szl := by
              rw [r2.length]
              have := congrArg List.length hy
              rw [List.length_append, ez, List.length_cons] at this
              omega
            have e6 : Ext G1 H1 G5 H5 := (e2.trans e3).trans ((Ext.heap e3.i s4).trans e5)
            refine ⟨acc, hd5, Nat.lt_of_lt_of_le hacc (szl_line (Nat.le_refl _)), G5, acc ++ [v], us ++ [y0], zs0, ⟨e6.g, same_put e6.h hD hd5 (tame_lst _), same_put e6.i g5 hd5 (tame_lst _), e6.f⟩, g5, upd_same, (r2.mono (e3.g.trans e5.g)).append (.cons r5 .nil), l3, by rw [hy, ez, List.append_assoc]; rfl⟩
      · rintro H ⟨G2, acc, us, zs, e2, g2, hd2, r2, l2, hy⟩
        rw [List.drop_length] at l2
        cases l2
        rw [List.append_nil] at hy
        subst hy
        exact p1 D G2 H e2 hD g2 ⟨acc, hd2, r2⟩
    · exact p1.elim
section
variable {X : Cx} {ec : Nat → Addr} {W : WX} {G0 H0 : Hp} {elt tg iter : Expr} {ifs : List Expr} {scope : Scope} {own : List (Str × Nat)} {pos : Pos} {g : TG} {gd : GE} {fi : LF} {tt : TF} {te : EF} {vs : List Nat}
theorem sts_nil : PTs X [] (tDT X.K ec WNo bYes) := ⟨fun pins s σ H Q I ⟨G, env, sg, E, p⟩ => pts_nil.run pins s σ H Q I (p H (Same.refl _))⟩
theorem sts_one {c : Expr} (h : PT X c (tDT X.K ec WNo tt)) : PTs X [c] (tDT X.K ec WNo tt) := pts_one h
/-- a comprehension's block as a value -/
theorem sn_lc (tk : TgOk X.K vs g gd) (hv : own.map (·.2) = vs) (hc : X.calm = true) (hN : X.N.Nodup) (hi : PI X tg iter (tDI X.K ec W fi)) (ok : BlkOk X.N X.env.scope scope own)
    (hg : ∀ (s : Shared) (H : Hp) (C : Addr) (cl : List (Str × Addr)) (fp : List Addr), PG (X.blk s H scope (compEnvC scope cl C X.env) fp) tg g) (ht : ∀ (s : Shared) (H : Hp) (C : Addr) (cl : List (Str × Addr)) (fp : List Addr), PTs (X.blk s H scope (compEnvC scope cl C X.env) fp) ifs (tDT X.K ec WNo tt))
    (he : ∀ (s : Shared) (H : Hp) (C : Addr) (cl : List (Str × Addr)) (fp : List Addr), PE (X.blk s H scope (compEnvC scope cl C X.env) fp) elt (tD X.K ec WNo te)) (hs : ∀ x, foldedSetIterable iter X.env x = pure x := by intro _; rfl) :
    PE X (.ListComp elt [⟨tg, iter, ifs, 0⟩] scope pos) (tDN X.K ec W (eLc gd fi tt te)) :=
  PE_imp (pe_lc hc hN hi ok hg ht he hs) fun σ H Q h => by rw [hv]; exact tLc_N tk h
end
def sOwn (i : Nat) (f : EF) (env : Ev) : Out := (f (env.map Sl.pur)).out fun d => .nx (env.set i (.ow d))
section
variable {K : PySem.W.Frag} {ec : Nat → Addr} {W : WX} {G0 H0 G H : Hp} {D : Ends} {σ : L2.St} {env : Ev}
theorem tDN_own {f : EF} {i : Nat} (S : StR K G0 H0 G H σ env) (p : PostS K ec W G0 H0 G D (sOwn i f env)) : tDN K ec W f σ H fun x H1 => gName i x σ H1 D.nx := by
  refine ⟨G, _, S.x.i, S.envP, ?_⟩
  unfold sOwn at p
  cases q : f (env.map Sl.pur) with
  | ok d =>
    rw [q] at p
    intro l G' H' e n g o
    refine p _ G' H' e.g ((S.grow e).setO g (S.x.h.free n) o fun j d' hj qj hs => ?_)
    obtain ⟨l', h1, _, _, h4⟩ := S.ow j d' qj
    rw [hs] at h1
    cases h1
    obtain ⟨u, hu, _⟩ := h4.there
    rw [n] at hu
    cases hu
  | ex c => rw [q] at p; exact fun H' s => p σ H' (S.x.h.trans s)
  | no => rw [q] at p; exact p
end
section
variable {X : Cx} {ec : Nat → Addr} {W : WX} {G0 H0 : Hp} {e : Expr} {fe : EF} {pos pos' : Pos} {i : Nat} {x : Str}
theorem ss_own (hN : X.N.Nodup) (he : PE X e (tDN X.K ec W fe)) (hi : X.N[i]? = some x := by rfl) (hx : Loc X.env.scope x := by first | exact Or.inl rfl | exact Or.inr rfl) (hs : swapsWith e (some (.Name x pos')) pos.line X.env = pure false := by rfl)
    (hf : X.fn x = true ∨ X.env.scope.names.lookup x = some .local := by first | exact .inl rfl | exact .inr rfl | assumption) : PS X (.Assign [.Name x pos'] e pos) (tDS X.K ec W G0 H0 (sOwn i fe)) :=
  PS_imp (ps_set (i := i) hN hi hx he hs hf) fun D σ H ⟨G, env, S, p⟩ => tDN_own S p
variable {elt tg iter : Expr} {ifs : List Expr} {scope : Scope} {own : List (Str × Nat)} {spos py : Pos} {g : TG} {gd : GE} {fi : LF} {tt : TF} {te : EF} {vs : List Nat}
/-- name = [..] on one line, the name a local -/
theorem ss_ownLc (tk : TgOk X.K vs g gd) (hv : own.map (·.2) = vs) (hc : X.calm = true) (hN : X.N.Nodup) (hi : PI X tg iter (tDI X.K ec W fi)) (ok : BlkOk X.N X.env.scope scope own)
    (hg : ∀ (s : Shared) (H : Hp) (C : Addr) (cl : List (Str × Addr)) (fp : List Addr), PG (X.blk s H scope (compEnvC scope cl C X.env) fp) tg g) (ht : ∀ (s : Shared) (H : Hp) (C : Addr) (cl : List (Str × Addr)) (fp : List Addr), PTs (X.blk s H scope (compEnvC scope cl C X.env) fp) ifs (tDT X.K ec WNo tt))
    (he : ∀ (s : Shared) (H : Hp) (C : Addr) (cl : List (Str × Addr)) (fp : List Addr), PE (X.blk s H scope (compEnvC scope cl C X.env) fp) elt (tD X.K ec WNo te))
    (hy : X.N[i]? = some x := by rfl) (hyl : X.env.scope.names.lookup x = some .local := by rfl) (hsw : swapsWith (.ListComp elt [⟨tg, iter, ifs, 0⟩] scope pos) (some (.Name x py)) spos.line X.env = pure true := by exact sw_true rfl rfl rfl (by decide +kernel)) (hs : ∀ x, foldedSetIterable iter X.env x = pure x := by intro _; rfl) :
    PS X (.Assign [.Name x py] (.ListComp elt [⟨tg, iter, ifs, 0⟩] scope pos) spos) (tDS X.K ec W G0 H0 (sOwn i (eLc gd fi tt te))) :=
  PS_imp (ps_setLc (i := i) hc hN hy hyl hsw hi ok hg ht he hs) fun D σ H ⟨G, env, S, p⟩ => by
    show tLc _ g _ _ _ σ H _
    rw [hv]
    exact tLc_N tk (tDN_own S p)
end

/-! ### changes of what is owned -/
noncomputable def sApp (m : Md) (i : Nat) (f : EF) (env : Ev) : Out := match env[i]? with
  | some (.ow (.list ds)) => (evM m f env).out fun d => if ds.length < szl then .nx (env.set i (.ow (.list (ds ++ [d])))) else .no
  | _ => .no
noncomputable def sExt (m : Md) (i : Nat) (f : EF) (env : Ev) : Out := match env[i]? with
  | some (.ow (.list ds)) => (evM m f env).out fun d => match d with
    | .list es => if ds.length + es.length ≤ szl then .nx (env.set i (.ow (.list (ds ++ es)))) else .no
    | _ => .no
  | _ => .no
/-- xs[k] = v: the value first -/
def sPut (mv mk : Md) (i : Nat) (fv fk : EF) (env : Ev) : Out := match env[i]? with
  | some (.ow (.list ds)) => (evM mv fv env).out fun d => (evM mk fk env).out fun k => match k with
    | .int j => match ixN ds.length j with
      | some n => .nx (env.set i (.ow (.list (ds.set n d))))
      | none => .no
    | _ => .no
  | _ => .no
section
variable {X : Cx}
def rExtendR (K : PySem.W.Frag) : V → List V → Hp → VK → Prop := fun x vs H Q => ∃ l b xs zs, x = .ref l ∧ vs = [.ref b] ∧ H l = some (.lst xs) ∧ LsL K H b zs ∧ xs.length + zs.length ≤ sizeLine ∧ Q .non (upd H l (.lst (xs ++ zs)))
theorem mt_extendR : MtM X "list.extend" (rExtendR X.K) := fun pins s σ H x vs v us Q I rx rv ⟨l, b, xs, zs, ex, ev, hl, hb, hz, q⟩ => by
  subst ex ev
  obtain rfl : v = Value.ref l := rx
  obtain rfl : us = [Value.ref b] := rv.ref1
  obtain ⟨is, n, r1, l1, _, o1⟩ := ls_obj I (.of hl)
  obtain ⟨js, m, r2, l2, f2, o2⟩ := ls_obj I hb
  have fit : is.toArray.size + js.toArray.size ≤ sizeLine := by simp only [List.size_toArray, l1, l2]; exact hz
  have short : ¬ (!is.toArray.isEmpty && Builtin.List.listTooLong (is.toArray.size + js.toArray.size)) = true := by rw [notLongL fit, Bool.and_false]; exact Bool.false_ne_true
  have inner := AutoSeq1.list_extend_list_list_0 l is.toArray n b js.toArray m short (by omega) (by omega)
  have long : (xs ++ zs).length ≤ sizeLine := by simp only [List.length_append]; exact hz
  exact call_meets F.slot_list_extend ⟨_, o1, rfl⟩ F.entry_list_extend (F.args_list_extend_2 _ _) inner ⟨o1, o2, ⟨.non, _, I.lset (its' := is ++ js) hl o1 (by simp) (r1.append r2) long, rfl, q⟩⟩
end
section
variable {X : Cx} {ec : Nat → Addr} {W : WX} {G0 H0 : Hp} {e k : Expr} {fe fk : EF} {p apos cpos pos tpos : Pos} {i : Nat} {x : Str}
theorem ss_app (m : Md) (he : PE X e (tD X.K ec W fe)) (hi : X.N[i]? = some x := by rfl) (hv : Vis X.env.scope x := by first | exact Or.inl rfl | exact Or.inr (Or.inl rfl) | exact Or.inr (Or.inr rfl)) (hd : (x == ("__debug__" : Str)) = false := by decide) (hcd : (x == ("__classdict__" : Str)) = false := by decide)
    (hfew : ((backTo cpos (starEach [e] X.env)).all (fun x => !x.1) && (backToKw cpos (keywordEach [] X.env)).all (fun x => x.1.isSome)
      && decide (([e] : List Expr).length + ([] : List Keyword).length + (if ([] : List Keyword).isEmpty then 0 else 1) < 30)) = true := by rfl)
    (hline : (apos.endLine == cpos.line) = true := by rfl) (hs : starEach [e] X.env = (false, eval e X.env) :: starEach [] X.env := by rfl) :
    PS X (.Expr (.Call (.Attribute (.Name x p) "append" apos) [e] [] cpos) pos) (tDS X.K ec W G0 H0 (sApp m i fe)) := by
  refine PS_imp (ps_expr (pe_bm PySem.F.plainAttrs_list PySem.F.slot_list_append PySem.F.type_list_append mt_append (pe_var hi hv hd hcd) (pa_cons he pa_nil hs) rfl hfew hline hs rfl)) fun D σ H ⟨G, env, S, p⟩ => ?_
  unfold sApp at p
  split at p
  · rename_i ds q
    obtain ⟨l, h1, h2, h3, vs, h4, h5⟩ := S.ow i _ q
    refine ⟨_, h1, .inl ⟨rfl, vs, SqL.of h4⟩, tD_M (m := m) S (PostE.out p fun v d G' H' _ g S' r p' => ?_)⟩
    obtain ⟨l', h1', h2', h3', vs', h4', h5'⟩ := S'.ow i _ q
    rw [h1] at h1'
    cases h1'
    split at p'
    · rename_i hz
      refine ⟨l, vs', v, rfl, rfl, h4', Nat.lt_of_lt_of_le (by rw [h5'.length]; exact hz) (szl_line (Nat.le_refl _)), ?_⟩
      exact p' σ G' _ (Same.refl _) (S'.mut q h1 ⟨_, upd_same, h5'.append (.cons r .nil)⟩)
    · exact p'.elim
  · exact p.elim
theorem ss_ext (m : Md) (he : PE X e (tD X.K ec W fe)) (hi : X.N[i]? = some x := by rfl) (hv : Vis X.env.scope x := by first | exact Or.inl rfl | exact Or.inr (Or.inl rfl) | exact Or.inr (Or.inr rfl)) (hd : (x == ("__debug__" : Str)) = false := by decide) (hcd : (x == ("__classdict__" : Str)) = false := by decide)
    (hfew : ((backTo cpos (starEach [e] X.env)).all (fun x => !x.1) && (backToKw cpos (keywordEach [] X.env)).all (fun x => x.1.isSome)
      && decide (([e] : List Expr).length + ([] : List Keyword).length + (if ([] : List Keyword).isEmpty then 0 else 1) < 30)) = true := by rfl)
    (hline : (apos.endLine == cpos.line) = true := by rfl) (hs : starEach [e] X.env = (false, eval e X.env) :: starEach [] X.env := by rfl) :
    PS X (.Expr (.Call (.Attribute (.Name x p) "extend" apos) [e] [] cpos) pos) (tDS X.K ec W G0 H0 (sExt m i fe)) := by
  refine PS_imp (ps_expr (pe_bm PySem.F.plainAttrs_list PySem.F.slot_list_extend PySem.F.type_list_extend mt_extendR (pe_var hi hv hd hcd) (pa_cons he pa_nil hs) rfl hfew hline hs rfl)) fun D σ H ⟨G, env, S, p⟩ => ?_
  unfold sExt at p
  split at p
  · rename_i ds q
    obtain ⟨l, h1, h2, h3, vs, h4, h5⟩ := S.ow i _ q
    refine ⟨_, h1, .inl ⟨rfl, vs, SqL.of h4⟩, tD_M (m := m) S (PostE.out p fun v d G' H' _ g S' r p' => ?_)⟩
    obtain ⟨l', h1', h2', h3', vs', h4', h5'⟩ := S'.ow i _ q
    rw [h1] at h1'
    cases h1'
    cases r with
    | @lst b zs es hb rz =>
      dsimp only at p'
      split at p'
      · rename_i hz
        refine ⟨l, b, vs', zs, rfl, rfl, h4', ls_same S'.x.i hb, szl_line (by rw [h5'.length, rz.length]; exact hz), ?_⟩
        exact p' σ G' _ (Same.refl _) (S'.mut q h1 ⟨_, upd_same, h5'.append rz⟩)
      · exact p'.elim
    | _ => exact p'.elim
  · exact p.elim
theorem ss_put (mv mk : Md) (he : PE X e (tD X.K ec W fe)) (hk : PE X k (tD X.K ec W fk)) (hi : X.N[i]? = some x := by rfl) (hv : Vis X.env.scope x := by first | exact Or.inl rfl | exact Or.inr (Or.inl rfl) | exact Or.inr (Or.inr rfl)) (hd : (x == ("__debug__" : Str)) = false := by decide) (hcd : (x == ("__classdict__" : Str)) = false := by decide)
    (ha : ∀ v, assign (.Subscript (.Name x p) k tpos) X.env v = (do
      let ov ← holding [v] (eval (.Name x p) X.env)
      let iv ← holding [v, ov] (eval k X.env)
      standAt tpos
      holding [v, ov, iv] (setItem ov iv v)
      release [v, ov, iv] []) := by intro _; rfl) (hs : swapsWithSole [.Subscript (.Name x p) k tpos] e pos.line X.env = pure false := by rfl) (hw : swappedStores [.Subscript (.Name x p) k tpos] e X.env = pure none := by rfl)
    (h1 : (assignEach [.Subscript (.Name x p) k tpos] X.env).map (·.2) = [assign (.Subscript (.Name x p) k tpos) X.env] := by rfl) :
    PS X (.Assign [.Subscript (.Name x p) k tpos] e pos) (tDS X.K ec W G0 H0 (sPut mv mk i fe fk)) := by
  refine PS_imp (ps_asg he (pg_sub (pe_var hi hv hd hcd) hk set_list ha) hs hw h1) fun D σ H ⟨G, env, S, p⟩ => ?_
  unfold sPut at p
  split at p
  · rename_i ds q
    refine tD_M (m := mv) S (PostE.out p fun v d G1 H1 _ g1 S1 r1 p1 => ?_)
    obtain ⟨l, a1, a2, a3, vs, a4, a5⟩ := S1.ow i _ q
    refine ⟨_, a1, tD_M (m := mk) S1 (PostE.out p1 fun kv kd G2 H2 _ g2 S2 r2 p2 => ?_)⟩
    obtain ⟨l', b1, b2, b3, vs', b4, b5⟩ := S2.ow i _ q
    rw [a1] at b1
    cases b1
    cases r2 with
    | int j =>
      dsimp only at p2
      split at p2
      · rename_i n hn
        refine ⟨l, vs', j, n, rfl, rfl, b4, by rw [b5.length]; exact hn, ?_⟩
        exact p2 σ G2 _ (Same.refl _) (S2.mut q a1 ⟨_, upd_same, b5.set (r1.mono g2) n⟩)
      · exact p2.elim
    | _ => exact p2.elim
  · exact p.elim
end
end PL
/-! PL, part g: built-ins, dicts. -/
namespace PL
open PySem PySem.Spec PyProof.Rows L2

/-! ### built-ins -/
noncomputable def gLen : List PyData → R PyData
  | [.list ds] => .ok (.int ds.length)
  | [.tuple ds] => .ok (.int ds.length)
  | [.str z] => if z.length ≤ szl then .ok (.int z.length) else .no
  | _ => .no
def gAbs : List PyData → R PyData
  | [.int i] => .ok (.int (if i < 0 then -i else i))
  | _ => .no
def gMax2 : List PyData → R PyData
  | [.int i, .int j] => .ok (.int (if j > i then j else i))
  | _ => .no
def gMin2 : List PyData → R PyData
  | [.int i, .int j] => .ok (.int (if j < i then j else i))
  | _ => .no
def gInt : List PyData → R PyData
  | [.int i] => .ok (.int i)
  | [.bool b] => .ok (.int (if b then 1 else 0))
  | _ => .no
def intsOf : List PyData → Option (List Int)
  | [] => some []
  | .int i :: r => (intsOf r).map (i :: ·)
  | _ :: _ => none
def boolsOf : List PyData → Option (List Bool)
  | [] => some []
  | .bool i :: r => (boolsOf r).map (i :: ·)
  | _ :: _ => none
theorem intsOf_eq : ∀ {ds : List PyData} {ns : List Int}, intsOf ds = some ns → ds = ns.map PyData.int
  | [], _, h => by cases h; rfl
  | d :: r, ns, h => by
    cases d with
    | int i =>
      unfold intsOf at h
      cases q : intsOf r with
      | none => rw [q] at h; cases h
      | some ms => rw [q] at h; cases h; rw [intsOf_eq q]; rfl
    | _ => cases h
theorem boolsOf_eq : ∀ {ds : List PyData} {ns : List Bool}, boolsOf ds = some ns → ds = ns.map PyData.bool
  | [], _, h => by cases h; rfl
  | d :: r, ns, h => by
    cases d with
    | bool i =>
      unfold boolsOf at h
      cases q : boolsOf r with
      | none => rw [q] at h; cases h
      | some ms => rw [q] at h; cases h; rw [boolsOf_eq q]; rfl
    | _ => cases h
theorem intsOf_map (ns : List Int) : intsOf (ns.map PyData.int) = some ns := by
  induction ns with
  | nil => rfl
  | cons n ns ih => simp [intsOf, ih]
theorem boolsOf_map (ns : List Bool) : boolsOf (ns.map PyData.bool) = some ns := by
  induction ns with
  | nil => rfl
  | cons n ns ih => simp [boolsOf, ih]
def gSum : List PyData → R PyData
  | [.list ds] => match intsOf ds with
    | some ns => .ok (.int ns.sum)
    | none => .no
  | _ => .no
/-- the greatest, the least of a list that isn't empty -/
def maxL : List Int → Int
  | [] => 0
  | [x] => x
  | x :: r => max x (maxL r)
def minL : List Int → Int
  | [] => 0
  | [x] => x
  | x :: r => min x (minL r)
theorem maxL_mem : ∀ {xs : List Int}, xs ≠ [] → maxL xs ∈ xs ∧ ∀ y ∈ xs, y ≤ maxL xs
  | [x], _ => by simp [maxL]
  | x :: y :: r, _ => by
    obtain ⟨h1, h2⟩ := maxL_mem (xs := y :: r) (by simp)
    have e : maxL (x :: y :: r) = max x (maxL (y :: r)) := rfl
    refine ⟨?_, fun z hz => ?_⟩
    · rw [e]
      by_cases h : x ≤ maxL (y :: r)
      · rw [Int.max_eq_right h]; exact List.mem_cons_of_mem _ h1
      · rw [Int.max_eq_left (by omega)]; exact List.mem_cons_self
    · rw [e]
      rcases List.mem_cons.mp hz with rfl | hz
      · omega
      · have := h2 z hz; omega
theorem minL_mem : ∀ {xs : List Int}, xs ≠ [] → minL xs ∈ xs ∧ ∀ y ∈ xs, minL xs ≤ y
  | [x], _ => by simp [minL]
  | x :: y :: r, _ => by
    obtain ⟨h1, h2⟩ := minL_mem (xs := y :: r) (by simp)
    have e : minL (x :: y :: r) = min x (minL (y :: r)) := rfl
    refine ⟨?_, fun z hz => ?_⟩
    · rw [e]
      by_cases h : x ≤ minL (y :: r)
      · rw [Int.min_eq_left h]; exact List.mem_cons_self
      · rw [Int.min_eq_right (by omega)]; exact List.mem_cons_of_mem _ h1
    · rw [e]
      rcases List.mem_cons.mp hz with rfl | hz
      · omega
      · have := h2 z hz; omega
def gMaxL : List PyData → R PyData
  | [.list ds] => match intsOf ds with
    | some (n :: ns) => .ok (.int (maxL (n :: ns)))
    | _ => .no
  | _ => .no
def gMinL : List PyData → R PyData
  | [.list ds] => match intsOf ds with
    | some (n :: ns) => .ok (.int (minL (n :: ns)))
    | _ => .no
  | _ => .no
def gAll : List PyData → R PyData
  | [.list ds] => match boolsOf ds with
    | some bs => .ok (.bool (bs.all id))
    | none => .no
  | _ => .no
def gAny : List PyData → R PyData
  | [.list ds] => match boolsOf ds with
    | some bs => .ok (.bool (bs.any id))
    | none => .no
  | _ => .no
def gTuple : List PyData → R PyData
  | [.list ds] => .ok (.tuple ds)
  | [.tuple ds] => .ok (.tuple ds)
  | _ => .no
def gList : List PyData → R PyData
  | [.list ds] => .ok (.list ds)
  | [.tuple ds] => .ok (.list ds)
  | _ => .no
section
variable {X : Cx} {K : PySem.W.Frag}
theorem cd_len : CallD K (fun xs H Q => ∃ x n, xs = [x] ∧ LenV K x H n ∧ Q (.int n) H) gLen := by
  intro vs ds d G H Q i r h q
  unfold gLen at h
  split at h
  · cases h
    cases r with
    | cons a b =>
      cases b
      cases a with
      | @lst l xs _ hl r => exact ⟨_, xs.length, rfl, .inl ⟨xs, (ls_same i hl).sq, rfl⟩, by rw [r.length]; exact q _ G H (Ext.refl i) (.int _)⟩
  · cases h
    cases r with
    | cons a b =>
      cases b
      cases a with
      | @tup l xs _ hl r => exact ⟨_, xs.length, rfl, .inr ⟨xs, sqT_same i hl, rfl⟩, by rw [r.length]; exact q _ G H (Ext.refl i) (.int _)⟩
  · split at h
    · rename_i hz
      cases h
      cases r with
      | cons a b =>
        cases b
        cases a
        exact ⟨_, _, rfl, ⟨szl_line hz, rfl⟩, q _ G H (Ext.refl i) (.int _)⟩
    · cases h
  · cases h
theorem cd_abs : CallD K (fun xs H Q => ∃ i, xs = [.int i] ∧ Q (.int (if i < 0 then -i else i)) H) gAbs := by
  intro vs ds d G H Q i r h q
  unfold gAbs at h
  split at h
  · cases h
    cases r with
    | cons a b =>
      cases b
      cases a
      exact ⟨_, rfl, q _ G H (Ext.refl i) (.int _)⟩
  · cases h
theorem cd_max2 : CallD K (fun xs H Q => ∃ i j, xs = [.int i, .int j] ∧ Q (.int (if j > i then j else i)) H) gMax2 := by
  intro vs ds d G H Q i r h q
  unfold gMax2 at h
  split at h
  · cases h
    cases r with
    | cons a b =>
      cases b with
      | cons b c =>
        cases c
        cases a
        cases b
        exact ⟨_, _, rfl, q _ G H (Ext.refl i) (.int _)⟩
  · cases h
theorem cd_min2 : CallD K (fun xs H Q => ∃ i j, xs = [.int i, .int j] ∧ Q (.int (if j < i then j else i)) H) gMin2 := by
  intro vs ds d G H Q i r h q
  unfold gMin2 at h
  split at h
  · cases h
    cases r with
    | cons a b =>
      cases b with
      | cons b c =>
        cases c
        cases a
        cases b
        exact ⟨_, _, rfl, q _ G H (Ext.refl i) (.int _)⟩
  · cases h
theorem cd_int : CallD K (fun xs H Q => (∃ i, xs = [.int i] ∧ Q (.int i) H) ∨ ∃ k, xs = [.bl k] ∧ Q (.int (if k then 1 else 0)) H) gInt := by
  intro vs ds d G H Q i r h q
  unfold gInt at h
  split at h
  · cases h
    cases r with
    | cons a b =>
      cases b
      cases a
      exact .inl ⟨_, rfl, q _ G H (Ext.refl i) (.int _)⟩
  · cases h
    cases r with
    | cons a b =>
      cases b
      cases a
      exact .inr ⟨_, rfl, q _ G H (Ext.refl i) (.int _)⟩
  · cases h
theorem ints_rd {G H : Hp} {v : V} {ds : List PyData} {ns : List Int} (i : Same G H) (r : Rep K G v (.list ds)) (e : intsOf ds = some ns) : ∃ a, v = .ref a ∧ SqL K H a (ns.map V.int) := by
  cases r with
  | @lst l xs _ hl r =>
    rw [intsOf_eq e] at r
    have := r.ints
    subst this
    exact ⟨l, rfl, (ls_same i hl).sq⟩
theorem bools_rd {G H : Hp} {v : V} {ds : List PyData} {ns : List Bool} (i : Same G H) (r : Rep K G v (.list ds)) (e : boolsOf ds = some ns) : ∃ a, v = .ref a ∧ SqL K H a (ns.map V.bl) := by
  cases r with
  | @lst l xs _ hl r =>
    rw [boolsOf_eq e] at r
    have := r.bls
    subst this
    exact ⟨l, rfl, (ls_same i hl).sq⟩
theorem cd_sum : CallD K (rSum K) gSum := by
  intro vs ds d G H Q i r h q
  unfold gSum at h
  split at h
  · split at h
    · rename_i ns e
      cases h
      cases r with
      | cons a b =>
        cases b
        obtain ⟨l, rfl, hs⟩ := ints_rd i a e
        exact ⟨l, ns, rfl, hs, q _ G H (Ext.refl i) (.int _)⟩
    · cases h
  · cases h
theorem cd_maxL : CallD K (rMax K) gMaxL := by
  intro vs ds d G H Q i r h q
  unfold gMaxL at h
  split at h
  · split at h
    · rename_i n ns e
      cases h
      cases r with
      | cons a b =>
        cases b
        obtain ⟨l, rfl, hs⟩ := ints_rd i a e
        refine ⟨l, n :: ns, rfl, hs, by simp, fun m hm hle => ?_⟩
        obtain ⟨h1, h2⟩ := maxL_mem (xs := n :: ns) (by simp)
        have e : m = maxL (n :: ns) := Int.le_antisymm (h2 m hm) (hle _ h1)
        rw [e]
        exact q _ G H (Ext.refl i) (.int _)
    · cases h
  · cases h
theorem cd_minL : CallD K (rMin K) gMinL := by
  intro vs ds d G H Q i r h q
  unfold gMinL at h
  split at h
  · split at h
    · rename_i n ns e
      cases h
      cases r with
      | cons a b =>
        cases b
        obtain ⟨l, rfl, hs⟩ := ints_rd i a e
        refine ⟨l, n :: ns, rfl, hs, by simp, fun m hm hle => ?_⟩
        obtain ⟨h1, h2⟩ := minL_mem (xs := n :: ns) (by simp)
        have e : m = minL (n :: ns) := Int.le_antisymm (hle _ h1) (h2 m hm)
        rw [e]
        exact q _ G H (Ext.refl i) (.int _)
    · cases h
  · cases h
theorem cd_all : CallD K (rAll K) gAll := by
  intro vs ds d G H Q i r h q
  unfold gAll at h
  split at h
  · split at h
    · rename_i ns e
      cases h
      cases r with
      | cons a b =>
        cases b
        obtain ⟨l, rfl, hs⟩ := bools_rd i a e
        exact ⟨l, ns, rfl, hs, q _ G H (Ext.refl i) (.bl _)⟩
    · cases h
  · cases h
theorem cd_any : CallD K (rAny K) gAny := by
  intro vs ds d G H Q i r h q
  unfold gAny at h
  split at h
  · split at h
    · rename_i ns e
      cases h
      cases r with
      | cons a b =>
        cases b
        obtain ⟨l, rfl, hs⟩ := bools_rd i a e
        exact ⟨l, ns, rfl, hs, q _ G H (Ext.refl i) (.bl _)⟩
    · cases h
  · cases h
theorem cd_tuple : CallD K (fun xs H Q => ∃ p ys, xs = [.ref p] ∧ ((SqL K H p ys ∧ ∀ l, H l = none → Q (.ref l) (upd H l (.tup ys))) ∨ (SqT K H p ys ∧ Q (.ref p) H))) gTuple := by
  intro vs ds d G H Q i r h q
  unfold gTuple at h
  split at h
  · cases h
    cases r with
    | cons a b =>
      cases b
      cases a with
      | @lst l xs _ hl r => exact ⟨l, xs, rfl, .inl ⟨(ls_same i hl).sq, fun p n => q _ _ _ (Ext.new i n) (ext_tup i n r)⟩⟩
  · cases h
    cases r with
    | cons a b =>
      cases b
      cases a with
      | @tup l xs _ hl r => exact ⟨l, xs, rfl, .inr ⟨sqT_same i hl, q _ G H (Ext.refl i) (.tup hl r)⟩⟩
  · cases h
theorem cd_list : CallD K (fun xs H Q => ∃ p ys, xs = [.ref p] ∧ (SqL K H p ys ∨ SqT K H p ys) ∧ ∀ l, H l = none → Q (.ref l) (upd H l (.lst ys))) gList := by
  intro vs ds d G H Q i r h q
  unfold gList at h
  split at h
  · cases h
    cases r with
    | cons a b =>
      cases b
      cases a with
      | @lst l xs _ hl r => exact ⟨l, xs, rfl, .inl ((ls_same i hl).sq), fun p n => q _ _ _ (Ext.new i n) (ext_list i n r)⟩
  · cases h
    cases r with
    | cons a b =>
      cases b
      cases a with
      | @tup l xs _ hl r => exact ⟨l, xs, rfl, .inr (sqT_same i hl), fun p n => q _ _ _ (Ext.new i n) (ext_list i n r)⟩
  · cases h
theorem xl_len : NoExL gLen := by
  intro x c h
  unfold gLen at h
  split at h
  · cases h
  · cases h
  · split at h <;> cases h
  · cases h
theorem xl_abs : NoExL gAbs := by
  intro x c h
  unfold gAbs at h
  split at h <;> cases h
theorem xl_max2 : NoExL gMax2 := by
  intro x c h
  unfold gMax2 at h
  split at h <;> cases h
theorem xl_min2 : NoExL gMin2 := by
  intro x c h
  unfold gMin2 at h
  split at h <;> cases h
theorem xl_int : NoExL gInt := by
  intro x c h
  unfold gInt at h
  split at h <;> cases h
theorem xl_sum : NoExL gSum := by
  intro x c h
  unfold gSum at h
  split at h
  · split at h <;> cases h
  · cases h
theorem xl_maxL : NoExL gMaxL := by
  intro x c h
  unfold gMaxL at h
  split at h
  · split at h <;> cases h
  · cases h
theorem xl_minL : NoExL gMinL := by
  intro x c h
  unfold gMinL at h
  split at h
  · split at h <;> cases h
  · cases h
theorem xl_all : NoExL gAll := by
  intro x c h
  unfold gAll at h
  split at h
  · split at h <;> cases h
  · cases h
theorem xl_any : NoExL gAny := by
  intro x c h
  unfold gAny at h
  split at h
  · split at h <;> cases h
  · cases h
theorem xl_tuple : NoExL gTuple := by
  intro x c h
  unfold gTuple at h
  split at h <;> cases h
theorem xl_list : NoExL gList := by
  intro x c h
  unfold gList at h
  split at h <;> cases h
end
section
variable {X : Cx} {ec : Nat → Addr} {W : WX} {e e2 : Expr} {fs : List EF} {f : EF} {p q pos : Pos}
theorem se_len (hg : Gl X "len") (hm : X.mg "len" = none) (ha : PA X [e] (tDA X.K ec W fs)) (he : starEach [e] X.env = (false, eval e X.env) :: starEach [] X.env := by rfl) : PE X (.Call (.Name "len" p) [e] [] pos) (tD X.K ec W (eCall gLen fs)) := se_callB call_len cd_len xl_len hg hm boot_len ha (he := he) (hpl := rfl)
theorem se_abs (hg : Gl X "abs") (hm : X.mg "abs" = none) (ha : PA X [e] (tDA X.K ec W fs)) (he : starEach [e] X.env = (false, eval e X.env) :: starEach [] X.env := by rfl) : PE X (.Call (.Name "abs" p) [e] [] pos) (tD X.K ec W (eCall gAbs fs)) := se_callB call_abs cd_abs xl_abs hg hm (by decide +kernel) ha (he := he) (hpl := rfl)
theorem se_max2 (hc : X.calm = true) (hg : Gl X "max") (hm : X.mg "max" = none) (ha : PA X [e, e2] (tDA X.K ec W fs)) (he : starEach [e, e2] X.env = (false, eval e X.env) :: starEach [e2] X.env := by rfl) (hpl : (backTo pos (starEach [e2] X.env)).any (·.1) = false := by rfl) : PE X (.Call (.Name "max" p) [e, e2] [] pos) (tD X.K ec W (eCall gMax2 fs)) := se_callB (call_max2 hc) cd_max2 xl_max2 hg hm (by decide +kernel) ha (he := he) (hpl := hpl)
theorem se_min2 (hc : X.calm = true) (hg : Gl X "min") (hm : X.mg "min" = none) (ha : PA X [e, e2] (tDA X.K ec W fs)) (he : starEach [e, e2] X.env = (false, eval e X.env) :: starEach [e2] X.env := by rfl) (hpl : (backTo pos (starEach [e2] X.env)).any (·.1) = false := by rfl) : PE X (.Call (.Name "min" p) [e, e2] [] pos) (tD X.K ec W (eCall gMin2 fs)) := se_callB (call_min2 hc) cd_min2 xl_min2 hg hm (by decide +kernel) ha (he := he) (hpl := hpl)
theorem se_intc (hg : Gl X "int") (hm : X.mg "int" = none) (ha : PA X [e] (tDA X.K ec W fs)) (he : starEach [e] X.env = (false, eval e X.env) :: starEach [] X.env := by rfl) : PE X (.Call (.Name "int" p) [e] [] pos) (tD X.K ec W (eCall gInt fs)) := se_callTy call_int1 cd_int xl_int hg hm (by decide +kernel) ha (he := he) (hpl := rfl)
theorem se_sum (hc : X.calm = true) (hg : Gl X "sum") (hm : X.mg "sum" = none) (ha : PA X [e] (tDA X.K ec W fs)) (he : starEach [e] X.env = (false, eval e X.env) :: starEach [] X.env := by rfl) : PE X (.Call (.Name "sum" p) [e] [] pos) (tD X.K ec W (eCall gSum fs)) := se_callB (cr_sum hc) cd_sum xl_sum hg hm (by decide +kernel) ha (he := he) (hpl := rfl)
theorem se_maxL (hc : X.calm = true) (hg : Gl X "max") (hm : X.mg "max" = none) (ha : PA X [e] (tDA X.K ec W fs)) (he : starEach [e] X.env = (false, eval e X.env) :: starEach [] X.env := by rfl) : PE X (.Call (.Name "max" p) [e] [] pos) (tD X.K ec W (eCall gMaxL fs)) := se_callB (cr_max hc) cd_maxL xl_maxL hg hm (by decide +kernel) ha (he := he) (hpl := rfl)
theorem se_minL (hc : X.calm = true) (hg : Gl X "min") (hm : X.mg "min" = none) (ha : PA X [e] (tDA X.K ec W fs)) (he : starEach [e] X.env = (false, eval e X.env) :: starEach [] X.env := by rfl) : PE X (.Call (.Name "min" p) [e] [] pos) (tD X.K ec W (eCall gMinL fs)) := se_callB (cr_min hc) cd_minL xl_minL hg hm (by decide +kernel) ha (he := he) (hpl := rfl)
theorem se_all (hc : X.calm = true) (hg : Gl X "all") (hm : X.mg "all" = none) (ha : PA X [e] (tDA X.K ec W fs)) (he : starEach [e] X.env = (false, eval e X.env) :: starEach [] X.env := by rfl) : PE X (.Call (.Name "all" p) [e] [] pos) (tD X.K ec W (eCall gAll fs)) := se_callB (cr_all hc) cd_all xl_all hg hm (by decide +kernel) ha (he := he) (hpl := rfl)
theorem se_any (hc : X.calm = true) (hg : Gl X "any") (hm : X.mg "any" = none) (ha : PA X [e] (tDA X.K ec W fs)) (he : starEach [e] X.env = (false, eval e X.env) :: starEach [] X.env := by rfl) : PE X (.Call (.Name "any" p) [e] [] pos) (tD X.K ec W (eCall gAny fs)) := se_callB (cr_any hc) cd_any xl_any hg hm (by decide +kernel) ha (he := he) (hpl := rfl)
theorem se_tuple (hg : Gl X "tuple") (hm : X.mg "tuple" = none) (ha : PA X [e] (tDA X.K ec W fs)) (he : starEach [e] X.env = (false, eval e X.env) :: starEach [] X.env := by rfl) : PE X (.Call (.Name "tuple" p) [e] [] pos) (tD X.K ec W (eCall gTuple fs)) := se_callTy call_tuple_of cd_tuple xl_tuple hg hm (by decide +kernel) ha (he := he) (hpl := rfl)
theorem se_list (hg : Gl X "list") (hm : X.mg "list" = none) (ha : PA X [e] (tDA X.K ec W fs)) (he : starEach [e] X.env = (false, eval e X.env) :: starEach [] X.env := by rfl) : PE X (.Call (.Name "list" p) [e] [] pos) (tD X.K ec W (eCall gList fs)) := se_callTy call_list_of cd_list xl_list hg hm (by decide +kernel) ha (he := he) (hpl := rfl)
end

/-! ### isinstance of a built-in type -/
def tyN : PyData → String
  | .none => "NoneType"
  | .bool _ => "bool"
  | .int _ => "int"
  | .str _ => "str"
  | .list _ => "list"
  | .tuple _ => "tuple"
  | .dict _ => "dict"
def dIsi (T : String) (d : PyData) : R PyData := match kitB (tyN d) T with
  | some b => .ok (.bool b)
  | none => .no
def rIsiN (K : PySem.W.Frag) : List V → Hp → VK → Prop := fun xs H Q => rIsi K xs H Q ∨ ∃ (a : Addr) (ks : List NK) (T : String) (b : Bool), xs = [.ref a, .ty T] ∧ H a = some (DnO a ks) ∧ kitB "dict" T = some b ∧ Q (.bl b) H
theorem call_isiN {X : Cx} : CallR X (.builtin "isinstance") (rIsiN X.K) := by
  intro pins s σ H xs us Q I r h
  rcases h with h | ⟨a, ks, T, b, rfl, ha, e, q⟩
  · exact call_isi pins s σ H xs us Q I r h
  · obtain ⟨u1, u2, rfl, r1, r2⟩ := vals2 r
    cases (show u1 = Value.ref a from r1)
    cases (show u2 = Value.type T from r2)
    obtain ⟨⟨_, _, xs, _, o, es, ep, h1, h2, _⟩, _, _⟩ := (show ObjOk X.prog X.w H s.heap a (.ext _) from I.hok a _ ha)
    exact PySem.W.kia_one PySem.W.kitx_dict I.kIn ⟨o, h1, h2.1⟩ (kit_ty e) (fun z => nomatch z) fun tk => ⟨.bl b, H, I.tok tk, rfl, q⟩
theorem tyX_of {K : PySem.W.Frag} {G H : Hp} {v : V} {d : PyData} (i : Same G H) (r : Rep K G v d) : TyX K H v (.type (tyN d)) ∨ tyN d = "dict" ∧ ∃ a ks, v = .ref a ∧ H a = some (DnO a ks) := by
  cases r with
  | dcn h _ => exact .inr ⟨rfl, _, _, rfl, i.ap _ _ h fun _ z => by unfold DnO at z; cases z⟩
  | non => exact .inl (.base .non)
  | bl b => exact .inl (.base (.bl b))
  | int b => exact .inl (.base (.int b))
  | str b => exact .inl (.base (.str b))
  | lst h _ =>
    rcases h with (h | ⟨o, h⟩) | ⟨its, n, h1, _⟩
    · exact .inl (.base (.lst (i.ap _ _ h fun _ z => by cases z)))
    · exact .inl (.base (.frz (i.ap _ _ h fun _ z => by cases z)))
    · exact .inl (.kList h1 rfl)
  | tup h _ =>
    rcases h with (h | ⟨o, h⟩) | ⟨o, its, n, h1, h2, h3⟩
    · exact .inl (.base (.tup (i.ap _ _ h fun _ z => by cases z)))
    · exact .inl (.fTuple (i.ap _ _ h fun _ z => by cases z))
    · exact .inl (.kTuple h1 h2)
  | dct h _ _ => exact .inl (.base (.dK (i.ap _ _ h fun _ z => by cases z)))
section
variable {X : Cx} {ec : Nat → Addr} {W : WX} {e : Expr} {f : EF} {p q pos : Pos} {T : String} {x : Str}
theorem se_isi (hg : Gl X "isinstance") (hm : X.mg "isinstance" = none) (ha : PE X e (tD X.K ec W f)) (hgT : Gl X x) (hmT : X.mg x = none) (hT : bootBuiltins x = some (.type T)) (hnT : x ≠ "__name__" := by decide) (hdT : (x == ("__debug__" : Str)) = false := by decide)
    (he : starEach [e, .Name x q] X.env = (false, eval e X.env) :: starEach [.Name x q] X.env := by rfl) : PE X (.Call (.Name "isinstance" p) [e, .Name x q] [] pos) (tD X.K ec W (eUn (dIsi T) f)) := by
  refine PE_imp (pe_callB (t := tCons (tD X.K ec W f) (tCons (tC (.ty T)) tNil)) call_isiN hg hm (by decide +kernel) (pa_cons ha (pa_cons (pe_bltn (v := .ty T) hgT hmT hT rfl hnT hdT) pa_nil rfl) he) (by decide) (by decide) he rfl) fun σ H Q ⟨G, env, s, E, p⟩ => ?_
  refine ⟨G, env, s, E, Post.bind p fun v d G1 H1 _ e1 r1 p1 => ?_⟩
  unfold dIsi at p1
  split at p1
  · rename_i b hb
    rcases tyX_of e1.i r1 with h | ⟨h1, a, ks, rfl, h2⟩
    · exact .inl ⟨v, .ty T, .type (tyN d), .type T, b, rfl, .ty T, h, kit_ty hb, p1 _ G1 H1 (Ext.refl e1.i) (.bl _)⟩
    · exact .inr ⟨a, ks, T, b, rfl, h2, by rw [← h1]; exact hb, p1 _ G1 H1 (Ext.refl e1.i) (.bl _)⟩
  · exact p1.elim
end
theorem dIsi_of {T : String} {d : PyData} {b : Bool} (h : kitB (tyN d) T = some b) : dIsi T d = .ok (.bool b) := by unfold dIsi; rw [h]
def is_int : PyData → Bool
  | .int _ => true
  | .bool _ => true
  | _ => false
theorem isi_int (d : PyData) : dIsi "int" d = .ok (.bool (is_int d)) := by
  cases d with
  | none => exact dIsi_of (b := false) (show kitB "NoneType" "int" = some false by decide +kernel)
  | bool x => exact dIsi_of (b := true) (show kitB "bool" "int" = some true by decide +kernel)
  | int x => exact dIsi_of (b := true) (show kitB "int" "int" = some true by decide +kernel)
  | str x => exact dIsi_of (b := false) (show kitB "str" "int" = some false by decide +kernel)
  | list x => exact dIsi_of (b := false) (show kitB "list" "int" = some false by decide +kernel)
  | tuple x => exact dIsi_of (b := false) (show kitB "tuple" "int" = some false by decide +kernel)
  | dict x => exact dIsi_of (b := false) (show kitB "dict" "int" = some false by decide +kernel)
def is_bool : PyData → Bool
  | .bool _ => true
  | _ => false
theorem isi_bool (d : PyData) : dIsi "bool" d = .ok (.bool (is_bool d)) := by
  cases d with
  | none => exact dIsi_of (b := false) (show kitB "NoneType" "bool" = some false by decide +kernel)
  | bool x => exact dIsi_of (b := true) (show kitB "bool" "bool" = some true by decide +kernel)
  | int x => exact dIsi_of (b := false) (show kitB "int" "bool" = some false by decide +kernel)
  | str x => exact dIsi_of (b := false) (show kitB "str" "bool" = some false by decide +kernel)
  | list x => exact dIsi_of (b := false) (show kitB "list" "bool" = some false by decide +kernel)
  | tuple x => exact dIsi_of (b := false) (show kitB "tuple" "bool" = some false by decide +kernel)
  | dict x => exact dIsi_of (b := false) (show kitB "dict" "bool" = some false by decide +kernel)
def is_str : PyData → Bool
  | .str _ => true
  | _ => false
theorem isi_str (d : PyData) : dIsi "str" d = .ok (.bool (is_str d)) := by
  cases d with
  | none => exact dIsi_of (b := false) (show kitB "NoneType" "str" = some false by decide +kernel)
  | bool x => exact dIsi_of (b := false) (show kitB "bool" "str" = some false by decide +kernel)
  | int x => exact dIsi_of (b := false) (show kitB "int" "str" = some false by decide +kernel)
  | str x => exact dIsi_of (b := true) (show kitB "str" "str" = some true by decide +kernel)
  | list x => exact dIsi_of (b := false) (show kitB "list" "str" = some false by decide +kernel)
  | tuple x => exact dIsi_of (b := false) (show kitB "tuple" "str" = some false by decide +kernel)
  | dict x => exact dIsi_of (b := false) (show kitB "dict" "str" = some false by decide +kernel)
def is_list : PyData → Bool
  | .list _ => true
  | _ => false
theorem isi_list (d : PyData) : dIsi "list" d = .ok (.bool (is_list d)) := by
  cases d with
  | none => exact dIsi_of (b := false) (show kitB "NoneType" "list" = some false by decide +kernel)
  | bool x => exact dIsi_of (b := false) (show kitB "bool" "list" = some false by decide +kernel)
  | int x => exact dIsi_of (b := false) (show kitB "int" "list" = some false by decide +kernel)
  | str x => exact dIsi_of (b := false) (show kitB "str" "list" = some false by decide +kernel)
  | list x => exact dIsi_of (b := true) (show kitB "list" "list" = some true by decide +kernel)
  | tuple x => exact dIsi_of (b := false) (show kitB "tuple" "list" = some false by decide +kernel)
  | dict x => exact dIsi_of (b := false) (show kitB "dict" "list" = some false by decide +kernel)
def is_tuple : PyData → Bool
  | .tuple _ => true
  | _ => false
theorem isi_tuple (d : PyData) : dIsi "tuple" d = .ok (.bool (is_tuple d)) := by
  cases d with
  | none => exact dIsi_of (b := false) (show kitB "NoneType" "tuple" = some false by decide +kernel)
  | bool x => exact dIsi_of (b := false) (show kitB "bool" "tuple" = some false by decide +kernel)
  | int x => exact dIsi_of (b := false) (show kitB "int" "tuple" = some false by decide +kernel)
  | str x => exact dIsi_of (b := false) (show kitB "str" "tuple" = some false by decide +kernel)
  | list x => exact dIsi_of (b := false) (show kitB "list" "tuple" = some false by decide +kernel)
  | tuple x => exact dIsi_of (b := true) (show kitB "tuple" "tuple" = some true by decide +kernel)
  | dict x => exact dIsi_of (b := false) (show kitB "dict" "tuple" = some false by decide +kernel)
def is_dict : PyData → Bool
  | .dict _ => true
  | _ => false
theorem isi_dict (d : PyData) : dIsi "dict" d = .ok (.bool (is_dict d)) := by
  cases d with
  | none => exact dIsi_of (b := false) (show kitB "NoneType" "dict" = some false by decide +kernel)
  | bool x => exact dIsi_of (b := false) (show kitB "bool" "dict" = some false by decide +kernel)
  | int x => exact dIsi_of (b := false) (show kitB "int" "dict" = some false by decide +kernel)
  | str x => exact dIsi_of (b := false) (show kitB "str" "dict" = some false by decide +kernel)
  | list x => exact dIsi_of (b := false) (show kitB "list" "dict" = some false by decide +kernel)
  | tuple x => exact dIsi_of (b := false) (show kitB "tuple" "dict" = some false by decide +kernel)
  | dict x => exact dIsi_of (b := true) (show kitB "dict" "dict" = some true by decide +kernel)

/-! ### dicts with int and text keys -/
def keyOf : PyData → Option Key
  | .int i => some (.inl i)
  | .str x => some (.inr x)
  | _ => none
theorem keyOf_kD (k : Key) : keyOf (kD k) = some k := by cases k <;> rfl
theorem keyOf_eq {d : PyData} {k : Key} (h : keyOf d = some k) : d = kD k := by
  cases d with
  | int i => cases h; rfl
  | str x => cases h; rfl
  | _ => cases h
def isK : Key → PyData → Bool
  | .inl i, .int j => decide (i = j)
  | .inr x, .str y => decide (x = y)
  | _, _ => false
theorem isK_kD (k j : Key) : isK k (kD j) = decide (j = k) := by
  cases k with
  | inl a =>
    cases j with
    | inl b => simp only [isK, kD, key_ll]; by_cases h : a = b <;> simp [h]; exact fun z => h z.symm
    | inr b => simp only [isK, kD, key_rl]
  | inr a =>
    cases j with
    | inl b => simp only [isK, kD, key_lr]
    | inr b => simp only [isK, kD, key_rr]; by_cases h : a = b <;> simp [h]; exact fun z => h z.symm
def dLook : List (PyData × PyData) → Key → Option PyData
  | [], _ => none
  | p :: r, k => if isK k p.1 = true then some p.2 else dLook r k
def dHas (kvs : List (PyData × PyData)) (k : Key) : Bool := kvs.any fun p => isK k p.1
def dPut (kvs : List (PyData × PyData)) (k : Key) (v : PyData) : List (PyData × PyData) :=
  if dHas kvs k = true then kvs.map fun p => if isK k p.1 = true then (p.1, v) else p else kvs ++ [(kD k, v)]
section
variable {K : PySem.W.Frag} {G : Hp}
theorem RepK.look : ∀ {kvs : List (Key × V)} {ds : List (PyData × PyData)} (k : Key), RepK K G kvs ds → (valV kvs k = none ∧ dLook ds k = none) ∨ ∃ v d, valV kvs k = some v ∧ dLook ds k = some d ∧ Rep K G v d
  | _, _, k, .nil => .inl ⟨rfl, rfl⟩
  | _, _, k, .cons (k := j) h r => by
    unfold dLook
    rw [isK_kD]
    by_cases e : j = k
    · rw [valV_pos e, if_pos (decide_eq_true e)]
      exact .inr ⟨_, _, rfl, rfl, h⟩
    · rw [valV_neg e, if_neg (by simp [e])]
      exact RepK.look k r
theorem RepK.has : ∀ {kvs : List (Key × V)} {ds : List (PyData × PyData)} (k : Key), RepK K G kvs ds → (kvs.any fun kv => decide (kv.1 = k)) = dHas ds k
  | _, _, k, .nil => rfl
  | _, _, k, .cons (k := j) h r => by
    unfold dHas
    rw [List.any_cons, List.any_cons, isK_kD]
    exact congrArg _ (RepK.has k r)
theorem RepK.len : ∀ {kvs : List (Key × V)} {ds : List (PyData × PyData)}, RepK K G kvs ds → kvs.length = ds.length
  | _, _, .nil => rfl
  | _, _, .cons _ r => by rw [List.length_cons, List.length_cons, RepK.len r]
theorem RepK.append : ∀ {vs ws : List (Key × V)} {ds es : List (PyData × PyData)}, RepK K G vs ds → RepK K G ws es → RepK K G (vs ++ ws) (ds ++ es)
  | _, _, _, _, .nil, s => s
  | _, _, _, _, .cons r t, s => .cons r (RepK.append t s)
theorem RepK.repl {v : V} {d : PyData} (k : Key) (h : Rep K G v d) : ∀ {kvs : List (Key × V)} {ds : List (PyData × PyData)}, RepK K G kvs ds → RepK K G (kvs.map fun kv => if kv.1 = k then (kv.1, v) else kv) (ds.map fun p => if isK k p.1 = true then (p.1, d) else p)
  | _, _, .nil => .nil
  | _, _, .cons (k := j) r t => by
    rw [List.map_cons, List.map_cons]
    dsimp only
    rw [isK_kD]
    by_cases e : j = k
    · rw [if_pos e, if_pos (decide_eq_true e)]
      exact .cons h (RepK.repl k h t)
    · rw [if_neg e, if_neg (by simp [e])]
      exact .cons r (RepK.repl k h t)
theorem RepK.put {v : V} {d : PyData} {kvs : List (Key × V)} {ds : List (PyData × PyData)} (k : Key) (h : Rep K G v d) (r : RepK K G kvs ds) : RepK K G (putK kvs k v) (dPut ds k d) := by
  unfold putK dPut
  rw [r.has k]
  split
  · exact RepK.repl k h r
  · exact r.append (.cons h .nil)
end
theorem putK_keys {kvs : List (Key × V)} {k : Key} {v : V} (n : (kvs.map (·.1)).Nodup) : ((putK kvs k v).map (·.1)).Nodup := by
  unfold putK
  split
  · have e : (kvs.map fun kv => if kv.1 = k then (kv.1, v) else kv).map (·.1) = kvs.map (·.1) := by
      rw [List.map_map]
      apply List.map_congr_left
      intro p _
      dsimp only [Function.comp]
      split <;> rfl
    rw [e]
    exact n
  · rename_i h
    rw [List.map_append, List.nodup_append]
    refine ⟨n, by simp, fun a ha b hb => ?_⟩
    rw [List.map_cons, List.map_nil, List.mem_singleton] at hb
    intro e
    subst e
    subst hb
    obtain ⟨p, hp, e⟩ := List.mem_map.mp ha
    exact h (List.any_eq_true.mpr ⟨p, hp, decide_eq_true e⟩)
/-- is it a dict with nested keys -/
def mkd : List (PyData × PyData) → Bool
  | (.none, _) :: _ => true
  | _ => false
def gd {α : Type} (kvs : List (PyData × PyData)) (r : R α) : R α := if mkd kvs = true then .no else r
theorem gd_un {α : Type} {kvs : List (PyData × PyData)} {r : R α} (h : mkd kvs = false) : gd kvs r = r := if_neg (by rw [h]; decide)
theorem gd_mk {α : Type} {x : PyData} {kvs : List (PyData × PyData)} {r : R α} : gd ((.none, x) :: kvs) r = .no := rfl
theorem RepK.unm {K : PySem.W.Frag} {G : Hp} {kvs : List (Key × V)} {ds : List (PyData × PyData)} (h : RepK K G kvs ds) : mkd ds = false := by
  cases h with
  | nil => rfl
  | @cons k v kvs d ds h r => cases k <;> rfl
theorem gd_nx {α : Type} {kvs : List (PyData × PyData)} {r : R α} {c : Nat} (h : r ≠ .ex c) : gd kvs r ≠ .ex c := by
  unfold gd
  split
  · intro z; cases z
  · exact h
def dGet2 (d k x : PyData) : R PyData := match d, keyOf k with
  | .dict kvs, some kk => gd kvs (.ok ((dLook kvs kk).getD x))
  | _, _ => .no
def dDIx (d k : PyData) : R PyData := match d, keyOf k with
  | .dict kvs, some kk => gd kvs (match dLook kvs kk with
    | some v => .ok v
    | none => .no)
  | _, _ => .no
def eGet2 (fd fk fx : EF) (env : List (Option PyData)) : R PyData := (fd env).bind fun d => match d with
  | .dict kvs => gd kvs ((fk env).bind fun k => (fx env).bind fun x => dGet2 (.dict kvs) k x)
  | _ => .no
def gDict : List PyData → R PyData
  | [.dict kvs] => gd kvs (.ok (.dict kvs))
  | _ => .no
/-- == of two dicts of ints that are the same -/
def sameInt : PyData → PyData → Bool
  | .int i, .int j => decide (i = j)
  | _, _ => false
def sameAt (b : List (PyData × PyData)) (p : PyData × PyData) : Bool := match keyOf p.1 with
  | some k => match dLook b k with
    | some v => sameInt p.2 v
    | none => false
  | none => false
def dNeD (x y : PyData) : R PyData := match x, y with
  | .dict a, .dict b => gd a (gd b (if a.length = b.length ∧ a.all (sameAt b) = true then .ok (.bool false) else .no))
  | _, _ => .no
section
variable {X : Cx} {ec : Nat → Addr} {W : WX} {e e2 e3 o : Expr} {fd fk fx f : EF} {fs : List EF} {p q pos apos cpos : Pos}
theorem kd_kv {K : PySem.W.Frag} {G : Hp} {v : V} {d : PyData} {k : Key} (r : Rep K G v d) (h : keyOf d = some k) : v = kV k := by
  cases r with
  | int i => cases h; rfl
  | str x => cases h; rfl
  | _ => cases h
theorem se_get2 (hu : X.A.units + 1 < cLine) (ho : PE X o (tD X.K ec W fd)) (he : PE X e (tD X.K ec W fk)) (hf : PE X e2 (tD X.K ec W fx)) (m : M2 X o "get" apos e e2 cpos := by exact ⟨rfl, rfl, rfl, rfl⟩) :
    PE X (.Call (.Attribute o "get" apos) [e, e2] [] cpos) (tD X.K ec W (eGet2 fd fk fx)) :=
  PE_imp (pe_dget2 hu ho he hf m) fun σ H Q ⟨G, env, s, E, p⟩ => ⟨G, env, s, E, Post.bind p fun v d G1 H1 _ e1 r1 p1 => by
    cases r1 with
    | @dct a kvs ds h n r =>
      have p1 : Post X.K ec W σ G1 H1 Q (gd ds ((fk env).bind fun k => (fx env).bind fun x => dGet2 (.dict ds) k x)) := p1
      rw [gd_un r.unm] at p1
      refine ⟨a, rfl, .inl ⟨kvs, .inl (e1.i.dK h)⟩, ⟨G1, env, e1.i, E.mono e1.g, Post.bind p1 fun vk dk G2 H2 _ e2 r2 p2 => ⟨G2, env, e2.i, E.mono (e1.g.trans e2.g), Post.bind p2 fun vx dx G3 H3 _ e3 r3 p3 => ?_⟩⟩⟩
      unfold dGet2 at p3
      split at p3
      · rename_i kk hd hk
        cases hd
        rw [gd_un r.unm] at p3
        have ev := kd_kv (r2.mono e3.g) hk
        subst ev
        have ha : H3 a = some (.dK kvs) := e3.i.dK (e3.g.dK (e2.g.dK h))
        refine ⟨valV kvs kk, DGet.k ha, ?_⟩
        rcases (r.mono (e2.g.trans e3.g)).look kk with ⟨h1, h2⟩ | ⟨v', d', h1, h2, h3⟩
        · rw [h1]; rw [h2] at p3; exact p3 _ G3 H3 (Ext.refl e3.i) r3
        · rw [h1]; rw [h2] at p3; exact p3 _ G3 H3 (Ext.refl e3.i) h3
      · exact p3.elim
    | _ => exact p1.elim⟩
theorem se_dat (hu : X.A.units + 1 < cLine) (ho : PE X o (tD X.K ec W fd)) (he : PE X e (tD X.K ec W fk)) (hs : NoSl e := by exact fun _ _ => rfl) : PE X (.Subscript o e pos) (tD X.K ec W (eBin dDIx fd fk)) :=
  PE_imp (pe_dget hu ho he hs) fun σ H Q ⟨G, env, s, E, p⟩ => ⟨G, env, s, E, Post.bind p fun v d G1 H1 _ e1 r1 p1 => ⟨G1, env, e1.i, E.mono e1.g, Post.bind p1 fun vk dk G2 H2 _ e2 r2 p2 => by
    cases r1 with
    | @dct a kvs ds h n r =>
      cases hk : keyOf dk with
      | none => unfold dDIx at p2; rw [hk] at p2; exact p2.elim
      | some kk =>
        have ev := kd_kv r2 hk
        subst ev
        have ha : H2 a = some (.dK kvs) := e2.i.dK (e2.g.dK h)
        unfold dDIx at p2
        rw [hk] at p2
        dsimp only at p2
        rw [gd_un r.unm] at p2
        rcases (r.mono e2.g).look kk with ⟨h1, h2⟩ | ⟨v', d', h1, h2, h3⟩
        · rw [h2] at p2; exact p2.elim
        · rw [h2] at p2
          refine ⟨a, v', rfl, ?_, p2 _ G2 H2 (Ext.refl e2.i) h3⟩
          rw [← h1]
          exact DGet.k ha
    | @dcn a ks ds h r =>
      have : dDIx (.dict ((.none, .none) :: ds)) dk = .no := by
        unfold dDIx
        cases keyOf dk with
        | none => rfl
        | some kk => exact gd_mk
      rw [this] at p2
      exact p2.elim
    | _ => exact p2.elim⟩⟩
def rDictC : List V → Hp → VK → Prop := fun xs H Q => ∃ a kvs, xs = [.ref a] ∧ Rd H a (.dK kvs) ∧ ∀ p, H p = none → Q (.ref p) (upd H p (.dK kvs))
theorem call_dictC : CallR X (.type "dict") rDictC := by
  intro pins s σ H xs us Q I r h
  obtain ⟨a, kvs, rfl, ha, q⟩ := h
  obtain ⟨u, rfl, ru⟩ := vals1 r
  cases ru
  exact d_copyOf I ha fun p s' n I' => ⟨.ref p, _, I', rfl, q p n⟩
/-- dict(d): a copy, new -/
theorem sn_dict (hg : Gl X "dict") (hm : X.mg "dict" = none) (ha : PA X [e] (tDA X.K ec W fs)) (he : starEach [e] X.env = (false, eval e X.env) :: starEach [] X.env := by rfl) : PE X (.Call (.Name "dict" p) [e] [] pos) (tDN X.K ec W (eCall gDict fs)) :=
  PE_imp (pe_callTy call_dictC hg hm (by decide +kernel) ha (he := he) (hpl := rfl)) fun σ H Q ⟨G, env, s, E, p⟩ => ⟨G, env, s, E, PostN.bindL p fun vs ds G1 H1 q e1 r1 p1 => by
    unfold gDict at p1
    split at p1
    · cases r1 with
      | cons a b =>
        cases b
        cases a with
        | @dcn a ks ds h r => exact p1.elim
        | @dct a kvs ds h n r =>
          rw [gd_un r.unm] at p1
          exact ⟨a, kvs, rfl, .inl (e1.i.dK h), fun l nl => p1 l G1 _ (Ext.heap e1.i (same_new nl)) nl (e1.i.free nl) (.inl ⟨kvs, upd_same, n, r⟩)⟩
    · exact p1.elim⟩
theorem int_of_same {K : PySem.W.Frag} {G : Hp} {v w : V} {a b : PyData} (r1 : Rep K G v a) (r2 : Rep K G w b) (h : sameInt a b = true) : v = w ∧ flatB v = true := by
  cases r1 with
  | int i =>
    cases r2 with
    | int j =>
      have e : i = j := of_decide_eq_true h
      subst e
      exact ⟨rfl, rfl⟩
    | _ => cases h
  | _ => cases h
theorem same_all {K : PySem.W.Frag} {G : Hp} {lvs : List (Key × V)} {es : List (PyData × PyData)} (r2 : RepK K G lvs es) : ∀ {kvs : List (Key × V)} {ds : List (PyData × PyData)}, RepK K G kvs ds → ds.all (sameAt es) = true → ∀ p ∈ kvs, valV lvs p.1 = some p.2 ∧ flatB p.2 = true
  | _, _, .nil, _ => fun p hp => by cases hp
  | _, _, .cons (k := k) h r, ha => fun p hp => by
    rw [List.all_cons, Bool.and_eq_true] at ha
    rcases List.mem_cons.mp hp with rfl | hp
    · have ha1 := ha.1
      unfold sameAt at ha1
      rw [keyOf_kD] at ha1
      dsimp only at ha1
      rcases r2.look k with ⟨w1, w2⟩ | ⟨v', d', w1, w2, w3⟩
      · rw [w2] at ha1; cases ha1
      · rw [w2] at ha1
        obtain ⟨e1, e2⟩ := int_of_same h w3 ha1
        subst e1
        exact ⟨w1, e2⟩
    · exact same_all r2 r ha.2 p hp
theorem od_neD {K : PySem.W.Frag} : OpD K rNeDA dNeD := by
  intro x y dx dy d G H Q i rx ry h q
  cases rx with
  | @dct a kvs ds h1 n1 r1 =>
    cases ry with
    | @dct b lvs es h2 n2 r2 =>
      unfold dNeD at h
      dsimp only at h
      rw [gd_un r1.unm, gd_un r2.unm] at h
      split at h
      · rename_i hc
        cases h
        exact ⟨a, b, kvs, lvs, rfl, rfl, i.dK h1, i.dK h2, by rw [r1.len, r2.len]; exact hc.1, same_all r2 r1 hc.2, q _ G H (Ext.refl i) (.bl _)⟩
      · cases h
    | @dcn b ks es h2 r2 =>
      have : dNeD (.dict ds) (.dict ((.none, .none) :: es)) = .no := by
        show gd ds (gd _ _) = .no
        rw [gd_mk]
        unfold gd
        split <;> rfl
      rw [this] at h
      cases h
    | _ => cases h
  | @dcn a ks ds h1 r1 =>
    have : dNeD (.dict ((.none, .none) :: ds)) dy = .no := by
      cases dy <;> rfl
    rw [this] at h
    cases h
  | _ => cases h
theorem nx_neD : NoEx dNeD := by
  intro x y c h
  unfold dNeD at h
  split at h
  · exact gd_nx (gd_nx (by split <;> intro z <;> cases z)) h
  · cases h
theorem se_neD (hu : X.A.units < cLine) {a b : Expr} {fa fb : EF} (ha : PE X a (tD X.K ec W fa)) (hb : PE X b (tD X.K ec W fb)) : PE X (.Compare a [.NotEq] [b] pos) (tD X.K ec W (eBin dNeD fa fb)) := se_cmp (op_ne_dictA hu) od_neD nx_neD ha hb (nomark _)
theorem st_neD (hu : X.A.units < cLine) {a b : Expr} {fa fb : EF} (ha : PE X a (tD X.K ec W fa)) (hb : PE X b (tD X.K ec W fb)) : PT X (.Compare a [.NotEq] [b] pos) (tDT X.K ec W (bVal (eBin dNeD fa fb))) := st_cmp (op_ne_dictA hu) od_neD nx_neD ha hb (nomark _)
end
end PL
/-! PL, part h: slices, displays of dicts, stores into dicts, constants of the module. -/
namespace PL
open PySem PySem.Spec PyProof.Rows L2

/-! ### slices -/
def cutD (xs : List PyData) (lo hi : Option Int) : List PyData := (xs.drop (HT.sIx xs.length 0 lo)).take (HT.sIx xs.length xs.length hi - HT.sIx xs.length 0 lo)
theorem RepA.cut {K : PySem.W.Frag} {G : Hp} {vs : List V} {ds : List PyData} (r : RepA K G vs ds) (lo hi : Option Int) : RepA K G (cutV vs lo hi) (cutD ds lo hi) := by
  unfold cutV cutD
  rw [r.length]
  exact (r.drop _).take _
def dSl (d : PyData) (lo hi : Option Int) : R PyData := match d with
  | .list xs => .ok (.list (cutD xs lo hi))
  | .tuple xs => .ok (.tuple (cutD xs lo hi))
  | _ => .no
def eOpt : Option EF → List (Option PyData) → R (Option Int)
  | none, _ => .ok none
  | some f, env => (f env).bind fun d => match d with
    | .int i => .ok (some i)
    | _ => .no
def eSl (f : EF) (lo hi : Option EF) (env : List (Option PyData)) : R PyData := (f env).bind fun d => (eOpt lo env).bind fun l => (eOpt hi env).bind fun h => dSl d l h
def PostO (K : PySem.W.Frag) (ec : Nat → Addr) (W : WX) (σ : L2.St) (H : Hp) (Q : Option Int → Hp → Prop) : R (Option Int) → Prop
  | .ok o => ∀ H', Same H H' → Q o H'
  | .ex c => ∀ H', Same H H' → W (.ref (ec c)) none σ H'
  | .no => False
def tDO (K : PySem.W.Frag) (ec : Nat → Addr) (W : WX) (f : Option EF) : TO := fun σ H Q => ∃ G env, Same G H ∧ EnvR K G σ env ∧ PostO K ec W σ H Q (eOpt f env)
theorem PO_imp {X : Cx} {e : Option Expr} {t t' : TO} (h : PO X e t) (k : ∀ σ H Q, t' σ H Q → t σ H Q) : PO X e t' := ⟨fun pins s σ H Q I q => h.run pins s σ H Q I (k _ _ _ q)⟩
theorem PostO.bind {K : PySem.W.Frag} {ec : Nat → Addr} {W : WX} {σ : L2.St} {G H : Hp} {Q : VK} {Q' : Option Int → Hp → Prop} {r : R (Option Int)} {k : Option Int → R PyData} (h : Post K ec W σ G H Q (r.bind k)) (i : Same G H) (hk : ∀ b H', r = .ok b → Same H H' → Post K ec W σ G H' Q (k b) → Q' b H') : PostO K ec W σ H Q' r := by
  cases r with
  | ok d => exact fun H' e => hk d H' rfl e (Post.mono (Ext.heap i e) h)
  | ex c => exact h
  | no => exact h
def rSlP (K : PySem.W.Frag) : V → Option Int → Option Int → Hp → VK → Prop := fun x lo hi H Q => rSlL K x lo hi H Q ∨ rSlA K x lo hi H Q
section
variable {X : Cx} {ec : Nat → Addr} {W : WX} {e e2 : Expr} {f fk : EF} {lo hi : Option Expr} {fl fh : Option EF} {pos p2 : Pos}
theorem so_none : PO X none (tDO X.K ec W none) := PO_imp po_none fun σ H Q ⟨G, env, s, E, p⟩ => p H (Same.refl _)
theorem so_some (h : PE X e (tD X.K ec W f)) : PO X (some e) (tDO X.K ec W (some f)) := PO_imp (po_some h) fun σ H Q ⟨G, env, s, E, p⟩ => by
  refine ⟨G, env, s, E, ?_⟩
  unfold eOpt at p
  dsimp only at p
  cases q : f env with
  | ok d =>
    rw [q] at p
    intro v G' H' e r
    cases r with
    | int i => exact ⟨i, rfl, p H' e.h⟩
    | _ => exact p.elim
  | ex c => rw [q] at p; exact p
  | no => rw [q] at p; exact p
theorem se_sl (he : PE X e (tD X.K ec W f)) (hl : PO X lo (tDO X.K ec W fl)) (hh : PO X hi (tDO X.K ec W fh)) : PE X (.Subscript e (.Slice lo hi none p2) pos) (tD X.K ec W (eSl f fl fh)) :=
  PE_imp (pe_slice (sl_list.or sl_tupA) he hl hh) fun σ H Q ⟨G, env, s, E, p⟩ => ⟨G, env, s, E, Post.bind p fun v d G1 H1 _ e1 r1 p1 =>
    ⟨G1, env, e1.i, E.mono e1.g, PostO.bind p1 e1.i fun l H2 _ s2 p2 => ⟨G1, env, e1.i.trans s2, E.mono e1.g, PostO.bind p2 (e1.i.trans s2) fun h H3 _ s3 p3 => by
      have i3 : Same G1 H3 := (e1.i.trans s2).trans s3
      cases r1 with
      | @lst a xs ds ha r => exact .inl ⟨a, xs, rfl, (ls_same i3 ha).sq, fun p n => p3 _ _ _ (Ext.new i3 n) (ext_list i3 n (r.cut l h))⟩
      | @tup a xs ds ha r =>
        refine .inr ⟨a, xs, rfl, sqT_same i3 ha, fun hw => ?_, fun _ p n => p3 _ _ _ (Ext.new i3 n) (ext_tup i3 n (r.cut l h))⟩
        have e : cutD ds l h = ds := by
          unfold cutD
          rw [← r.length, hw.1, hw.2, List.drop_zero, Nat.sub_zero, r.length, List.take_length]
        refine p3 _ G1 H3 (Ext.refl i3) ?_
        rw [e]
        exact .tup ha r
      | _ => exact p3.elim⟩⟩⟩
end

/-! ### displays of dicts -/
def dispT (K : PySem.W.Frag) (ec : Nat → Addr) (W : WX) (kf : List (Str × EF)) : List (TE × TE) := kf.map fun p => (tC (.str p.1), tD K ec W p.2)
def zipK : List (Str × EF) → List PyData → List (PyData × PyData)
  | (k, _) :: r, d :: ds => (.str k, d) :: zipK r ds
  | _, _ => []
def eDisp (kf : List (Str × EF)) (env : List (Option PyData)) : R PyData := (aAll (kf.map (·.2)) env).bind fun ds => .ok (.dict (zipK kf ds))
def PostKV (K : PySem.W.Frag) (ec : Nat → Addr) (W : WX) (σ : L2.St) (G H : Hp) (kf : List (Str × EF)) (Q : List (Key × V) → Hp → Prop) : R (List PyData) → Prop
  | .ok ds => ∀ kvs G' H', Ext G H G' H' → RepK K G' kvs (zipK kf ds) → kvs.map (·.1) = kf.map (fun p => Sum.inr p.1) → Q kvs H'
  | .ex c => ∀ H', Same H H' → W (.ref (ec c)) none σ H'
  | .no => False
theorem pairs_D {K : PySem.W.Frag} {ec : Nat → Addr} {W : WX} {σ : L2.St} {env : List (Option PyData)} : ∀ (kf : List (Str × EF)) (G H : Hp) (Q : List (V × V) → Hp → Prop), Same G H → EnvR K G σ env →
    PostKV K ec W σ G H kf (fun kvs H' => Q (kvs.map fun kv => (kV kv.1, kv.2)) H') (aAll (kf.map (·.2)) env) → tPairs (dispT K ec W kf) σ H Q
  | [], G, H, Q, i, E, p => p [] G H (Ext.refl i) .nil rfl
  | (k, f) :: r, G, H, Q, i, E, p => by
    show tPairs ((tC (.str k), tD K ec W f) :: dispT K ec W r) σ H Q
    refine ⟨G, env, i, E, ?_⟩
    have p : PostKV K ec W σ G H ((k, f) :: r) (fun kvs H' => Q (kvs.map fun kv => (kV kv.1, kv.2)) H') ((f env).bind fun d => (aAll (r.map (·.2)) env).bind fun ds => .ok (d :: ds)) := p
    cases q : f env with
    | ex c => rw [q] at p; exact p
    | no => rw [q] at p; exact p
    | ok d =>
      rw [q, R.bind_ok] at p
      intro v G1 H1 e1 r1
      refine pairs_D r G1 H1 _ e1.i (E.mono e1.g) ?_
      cases q2 : aAll (r.map (·.2)) env with
      | ex c => rw [q2] at p; exact fun H' s => p H' (e1.h.trans s)
      | no => rw [q2] at p; exact p
      | ok ds =>
        rw [q2] at p
        intro kvs G2 H2 e2 r2 hk
        exact p ((Sum.inr k, v) :: kvs) G2 H2 (e1.trans e2) (.cons (k := Sum.inr k) (r1.mono e2.g) r2) (by rw [List.map_cons, List.map_cons, hk])
theorem putK_last {acc : List (Key × V)} {k : Key} {v : V} (h : k ∉ acc.map (·.1)) : putK acc k v = acc ++ [(k, v)] := by
  unfold putK
  rw [if_neg]
  intro q
  obtain ⟨p, hp, e⟩ := List.any_eq_true.mp q
  exact h (List.mem_map.mpr ⟨p, hp, of_decide_eq_true e⟩)
theorem mergeK_nodup : ∀ (kvs acc : List (Key × V)), ((acc ++ kvs).map (·.1)).Nodup → mergeK acc kvs = acc ++ kvs
  | [], acc, _ => by rw [List.append_nil]; rfl
  | (k, v) :: r, acc, h => by
    have hk : k ∉ acc.map (·.1) := fun hm => by
      rw [List.map_append, List.nodup_append] at h
      exact h.2.2 k hm k (by simp) rfl
    show mergeK (putK acc k v) r = _
    rw [putK_last hk, mergeK_nodup r (acc ++ [(k, v)]) (by rw [List.append_assoc]; exact h), List.append_assoc]
    rfl
section
variable {X : Cx} {ec : Nat → Addr} {W : WX} {G0 H0 : Hp} {e v : Expr} {f fe fk : EF} {ks : List (Option Expr)} {vs : List Expr} {kf : List (Str × EF)} {pos pos' p : Pos} {k : Str} {j : Nat}
theorem sp_nil : PPs X pos [] [] (dispT X.K ec W []) := pps_nil
theorem sp_cons (hv : PE X v (tD X.K ec W f)) (hr : PPs X pos ks vs (dispT X.K ec W kf)) : PPs X pos (some (.Constant (.str k) j p) :: ks) (v :: vs) (dispT X.K ec W ((k, f) :: kf)) := pps_cons pe_str hv hr
theorem sn_disp (h : PPs X pos ks vs (dispT X.K ec W kf)) (hn : (kf.map (·.1)).Nodup) (hl15 : kf.length ≤ 15 := by exact Nat.le_of_ble_eq_true rfl) (hall : ks.all (·.isSome) = true := by rfl) (hl : ks.length = vs.length := by rfl) (h0 : ks ≠ [] := by intro z; cases z) (h15 : ks.length ≤ 15 := by decide) :
    PE X (.Dict ks vs pos) (tDN X.K ec W (eDisp kf)) :=
  PE_imp (pe_disp h hall hl h0 h15) fun σ H Q ⟨G, env, s, E, p⟩ => fun l nl => by
    have gl : G l = none := s.free nl
    have i1 : Same G (upd H l (.dK [])) := s.trans (same_new nl)
    refine pairs_D kf G _ _ i1 E ?_
    unfold eDisp at p
    cases q : aAll (kf.map (·.2)) env with
    | ex c => rw [q] at p; exact fun H' s' => p H' ((same_new nl).trans s')
    | no => rw [q] at p; exact p
    | ok ds =>
      rw [q] at p
      intro kvs G' H' e1 r1 hk
      have hnd : (kvs.map (·.1)).Nodup := by
        rw [hk]
        have : kf.map (fun p => (Sum.inr p.1 : Key)) = (kf.map (·.1)).map Sum.inr := by rw [List.map_map]; rfl
        rw [this, List.Nodup, List.pairwise_map]
        exact List.Pairwise.imp (fun hne z => hne (Sum.inr.inj z)) hn
      have hlen : kvs.length ≤ 15 := by
        have := congrArg List.length hk
        rw [List.length_map, List.length_map] at this
        omega
      have hl' : H' l = some (.dK []) := e1.h.dK upd_same
      refine ⟨hl', kvs, rfl, hlen, ?_⟩
      rw [mergeK_nodup kvs [] (by rw [List.nil_append]; exact hnd), List.nil_append]
      have g' : G' l = none := e1.clean gl upd_same
      refine p l G' _ ⟨e1.g, same_put ((same_new nl).trans e1.h) nl hl' (tame_dK _), same_put e1.i g' hl' (tame_dK _), fun b h1 h2 => ?_⟩ nl g' (.inl ⟨kvs, upd_same, hnd, r1⟩)
      · have := e1.f b h1 h2
        by_cases hb : b = l
        · rw [hb]; exact nl
        · rw [upd_ne hb] at this; exact this
/-- d[k] = v of an owned dict -/
noncomputable def sDSet (mv mk : Md) (i : Nat) (fv fk : EF) (env : Ev) : Out := match env[i]? with
  | some (.ow (.dict kvs)) => (evM mv fv env).out fun d => (evM mk fk env).out fun k => match keyOf k with
    | some kk => if mkd kvs = false ∧ kvs.length < szl then .nx (env.set i (.ow (.dict (dPut kvs kk d)))) else .no
    | none => .no
  | _ => .no
theorem sn_dnew : PE X (.Dict [] [] pos) (tDN X.K ec W (eC (.dict []))) :=
  PE_imp pe_dnewK fun σ H Q ⟨G, env, s, E, p⟩ => fun l nl => p l G _ (Ext.heap s (same_new nl)) nl (s.free nl) (.inl ⟨[], upd_same, List.nodup_nil, .nil⟩)
theorem ss_dset (mv mk : Md) {i : Nat} {x : Str} (hu : X.A.units + 1 < cLine) (he : PE X e (tD X.K ec W fe)) (hk : PE X v (tD X.K ec W fk)) (hi : X.N[i]? = some x := by rfl) (hv : Vis X.env.scope x := by first | exact Or.inl rfl | exact Or.inr (Or.inl rfl) | exact Or.inr (Or.inr rfl)) (hd : (x == ("__debug__" : Str)) = false := by decide) (hcd : (x == ("__classdict__" : Str)) = false := by decide)
    (hs : swapsWith e (some (.Subscript (.Name x p) v pos')) pos.line X.env = pure false := by rfl) :
    PS X (.Assign [.Subscript (.Name x p) v pos'] e pos) (tDS X.K ec W G0 H0 (sDSet mv mk i fe fk)) := by
  refine PS_imp (ps_dput hu (pe_var hi hv hd hcd) hk he hs) fun D σ H ⟨G, env, S, p⟩ => ?_
  unfold sDSet at p
  split at p
  · rename_i ds q
    refine tD_M (m := mv) S (PostE.out p fun v d G1 H1 _ g1 S1 r1 p1 => ?_)
    obtain ⟨l, a1, a2, a3, _⟩ := S1.ow i _ q
    refine ⟨_, a1, tD_M (m := mk) S1 (PostE.out p1 fun kv kd G2 H2 _ g2 S2 r2 p2 => ?_)⟩
    obtain ⟨l', b1, b2, b3, bo⟩ := S2.ow i _ q
    rw [a1] at b1
    cases b1
    cases hkk : keyOf kd with
    | none => rw [hkk] at p2; exact p2.elim
    | some kk =>
      rw [hkk] at p2
      dsimp only at p2
      have ev := kd_kv r2 hkk
      subst ev
      split at p2
      · rename_i hz
        rcases bo with ⟨vs', b4, b5, b6⟩ | ⟨ks, es, rfl, _⟩
        rotate_left
        · exact absurd hz.1 (by intro z; cases z)
        have hz := hz.2
        refine ⟨l, _, rfl, DPut.k (k := kk) b4 (Nat.lt_of_lt_of_le (by rw [b6.len]; exact hz) (szl_line (Nat.le_refl _))), ?_⟩
        exact p2 σ G2 _ (Same.refl _) (S2.mut q a1 (.inl ⟨_, upd_same, putK_keys b5, b6.put kk (r1.mono g2)⟩))
      · exact p2.elim
  · exact p.elim
end

/-! ### constants of the module -/
/-- the module's name x holds the datum d, whatever the heap -/
def GlobD (K : PySem.W.Frag) (mg : Str → Option Value) (x : Str) (d : PyData) : Prop := ∃ v u, mg x = some u ∧ RelV v u ∧ ∀ G, Rep K G v d
theorem globD_int {K : PySem.W.Frag} {mg : Str → Option Value} {x : Str} {i : Int} {t : Tok} (h : mg x = some (.int i t)) : GlobD K mg x (.int i) := ⟨.int i, _, h, ⟨t, rfl⟩, fun _ => .int i⟩
theorem globD_str {K : PySem.W.Frag} {mg : Str → Option Value} {x : Str} {z : Str} {t : Tok} (h : mg x = some (.str z t)) : GlobD K mg x (.str z) := ⟨.str z, _, h, ⟨t, rfl⟩, fun _ => .str z⟩
theorem se_glob {X : Cx} {ec : Nat → Addr} {W : WX} {x : Str} {pos : Pos} {d : PyData} (g : GlobD X.K X.mg x d) (hg : Gl X x) (hd : (x == ("__debug__" : Str)) = false := by decide) : PE X (.Name x pos) (tD X.K ec W (eC d)) := by
  obtain ⟨v, u, hm, r, h⟩ := g
  exact se_c (pe_glob hg hm r hd) h
end PL
/-! PL, part i: two names at once, contexts of defs, levels. -/
namespace PL
open PySem PySem.Spec PyProof.Rows L2

def evML : Md → List EF → Ev → R (List PyData)
  | .P, fs, env => aAll fs (env.map Sl.pur)
  | .A, fs, env => (aAll fs (env.map Sl.full)).bind fun ds => if ds.all atomic = true then .ok ds else .no
def PostEL (K : PySem.W.Frag) (ec : Nat → Addr) (W : WX) (G0 H0 G : Hp) (σ : L2.St) (env : Ev) (Q : List V → Hp → Prop) : R (List PyData) → Prop
  | .ok ds => ∀ vs G' H', Same G G' → StR K G0 H0 G' H' σ env → RepA K G' vs ds → Q vs H'
  | .ex c => ∀ H', Same H0 H' → W (.ref (ec c)) none σ H'
  | .no => False
theorem atomic_repA {K : PySem.W.Frag} {G G' : Hp} : ∀ {vs : List V} {ds : List PyData}, RepA K G vs ds → ds.all atomic = true → RepA K G' vs ds
  | _, _, .nil, _ => .nil
  | _, _, .cons h r, a => by
    rw [List.all_cons, Bool.and_eq_true] at a
    exact .cons (atomic_rep h a.1) (atomic_repA r a.2)
section
variable {K : PySem.W.Frag} {ec : Nat → Addr} {W : WX} {G0 H0 G H : Hp} {σ : L2.St} {env : Ev} {D : Ends} {Q : List V → Hp → Prop}
theorem tDA_M {m : Md} {fs : List EF} (S : StR K G0 H0 G H σ env) (h : PostEL K ec W G0 H0 G σ env Q (evML m fs env)) : tDA K ec W fs σ H Q := by
  cases m with
  | P =>
    refine ⟨G, _, S.x.i, S.envP, ?_⟩
    have h : PostEL K ec W G0 H0 G σ env Q (aAll fs (env.map Sl.pur)) := h
    cases q : aAll fs (env.map Sl.pur) with
    | ok d => rw [q] at h; exact fun v G' H' e r => h v G' H' e.g (S.grow e) r
    | ex c => rw [q] at h; exact fun H' s => h H' (S.x.h.trans s)
    | no => rw [q] at h; exact h
  | A =>
    refine ⟨_, _, S.viewH, S.envF, ?_⟩
    have h : PostEL K ec W G0 H0 G σ env Q ((aAll fs (env.map Sl.full)).bind fun ds => if ds.all atomic = true then .ok ds else .no) := h
    cases q : aAll fs (env.map Sl.full) with
    | ok d =>
      rw [q] at h
      rw [R.bind_ok] at h
      split at h
      · rename_i ha
        exact fun v G' H' e r => h v G H' (Same.refl _) (S.grow (Ext.heap S.x.i e.h)) (atomic_repA r ha)
      · exact h.elim
    | ex c => rw [q] at h; exact fun H' s => h H' (S.x.h.trans s)
    | no => rw [q] at h; exact h
theorem PostEL.out {r : R (List PyData)} {k : List PyData → Out} (h : PostS K ec W G0 H0 G D (r.outL k)) (hk : ∀ vs ds G' H', r = .ok ds → Same G G' → StR K G0 H0 G' H' σ env → RepA K G' vs ds → PostS K ec W G0 H0 G' D (k ds) → Q vs H') : PostEL K ec W G0 H0 G σ env Q r := by
  cases r with
  | ok d => exact fun v G' H' g S r => hk v d G' H' rfl g S r (PostS.mono g h)
  | ex c => exact fun H' s => h σ H' s
  | no => exact h
end
def sPar (m : Md) (i j : Nat) (fs : List EF) (env : Ev) : Out := (evML m fs env).outL fun ds => match ds with
  | [a, b] => .nx ((env.set i (.pu a)).set j (.pu b))
  | _ => .no
section
variable {X : Cx} {ec : Nat → Addr} {W : WX} {G0 H0 : Hp} {a b : Expr} {fs : List EF} {pos px py pt : Pos} {i j : Nat} {x y : Str}
theorem ss_par (m : Md) {kt k2 pt2} (hc : X.calm = true) (hN : X.N.Nodup) (ha : PA X [a, b] (tDA X.K ec W fs)) (hi : X.N[i]? = some x := by rfl) (hj : X.N[j]? = some y := by rfl) (hij : i ≠ j := by decide)
    (hx : X.env.scope.names.lookup x = some .local := by rfl) (hy : X.env.scope.names.lookup y = some .local := by rfl)
    (hw : swappedStores [.Tuple [.Name x px, .Name y py] kt pt] (.Tuple [a, b] k2 pt2) X.env = pure (some [x, y]) := by rfl)
    (hs : swapsWithSole [.Tuple [.Name x px, .Name y py] kt pt] (.Tuple [a, b] k2 pt2) pos.line X.env = pure false := by rfl) :
    PS X (.Assign [.Tuple [.Name x px, .Name y py] kt pt] (.Tuple [a, b] k2 pt2) pos) (tDS X.K ec W G0 H0 (sPar m i j fs)) :=
  PS_imp (ps_par hc hN hi hj hij hx hy ha hw hs) fun D σ H ⟨G, env, S, p⟩ => tDA_M (m := m) S (PostEL.out p fun vs ds G' H' _ g S' r p' => by
    split at p'
    · cases r with
      | cons r1 r2 =>
        cases r2 with
        | cons r2 r3 =>
          cases r3
          exact ⟨_, _, rfl, p' _ G' H' (Same.refl _) ((S'.setP r1).setP r2)⟩
    · exact p'.elim)
end

/-! ### the context of a def -/
section
variable {P : Program} {w : World} {K : PySem.W.Frag} {mg : Str → Option Value} {base : Heap} {N : List Str} {qual : Str} {sc : Scope} {f : Addr} {cdv : Value} {A : Around} {outer : List Env} {s : Shared} {H : Hp} {E : XK}
theorem tk_cx : L2N.Takes (cxOf (L2N.CX P w) P w K mg base N qual sc f cdv A outer s H E) (fun cls d _ H => E cls d H) := L2N.takes_of rfl rfl rfl rfl
theorem hp_cx : PassesOwn (model P w) (A.deeper (envOfC qual sc s.heap.objs.size f cdv)) (envOfC qual sc s.heap.objs.size f cdv) (cxOf (L2N.CX P w) P w K mg base N qual sc f cdv A outer s H E).xe := passes_of (X := cxOf (L2N.CX P w) P w K mg base N qual sc f cdv A outer s H E) rfl
end
theorem units65 {k : Nat} {A : Around} (r : Room k A) : A.units + 65 < cLine := by have := r.un; omega
/-- a def that is never worth anything -/
theorem fn_no {P : Program} {w : World} {K : PySem.W.Frag} {mg : Str → Option Value} {base : Heap} {ec : Nat → Addr} {k n : Nat} {f : Addr} {fd : FuncData} {ps : List Str} (hn : ps.length = n) {g : List PyData → R PyData} (hg : ∀ ds, g ds = .no) : FnOk P w K mg base (L2N.CX P w) k f fd ps (spP K ec n g) :=
  ⟨fun vs H Q E h => by rw [h.1, hn], fun A outer s H args us vs Q E hr e0 hb r h => by
    obtain ⟨_, G, ds, _, _, _, p⟩ := h
    rw [hg] at p
    exact p.elim⟩
theorem cal_of {P : Program} {w : World} {K : PySem.W.Frag} {mg : Str → Option Value} {base : Heap} {ec : Nat → Addr} {x qual : Str} {st : Stmt} {n k : Nat} {g : List PyData → R PyData} {f : Addr} {fd : FuncData} {ps : List Str}
    (F : Fun K x qual st f fd) (hm : mg x = some (.ref f)) (hb : Binds K fd ps []) (ok : FnOk P w K mg base (L2N.CX P w) k f fd ps (spP K ec n g)) : Cal P w K mg base ec x n k g := ⟨f, fd, ps, ok, hm, F.kp, hb⟩
theorem Cal.mono {P : Program} {w : World} {K : PySem.W.Frag} {mg : Str → Option Value} {base : Heap} {ec : Nat → Addr} {x : Str} {n j k : Nat} {g : List PyData → R PyData} (c : Cal P w K mg base ec x n j g) (h : j ≤ k) : Cal P w K mg base ec x n k g := by
  obtain ⟨f, fd, ps, F, hm, hk, hb⟩ := c.ex
  exact ⟨f, fd, ps, F.mono h, hm, hk, hb⟩
end PL
/-! PL, part j: the end of a law. -/
namespace PL
open PySem PySem.Spec PyProof.Rows L2
/-- what is known at the head: the def's promise, with the code tables that it may write -/
def AtHead (l : PySem.W.OpenLaw) (w : World) (mg : Str → Option Value) (fa : Addr) (h : Heap) (k : Nat) (x : Str) (g : List PyData → R PyData) (K : PySem.W.Frag) : Prop :=
  ∃ (ec : Nat → Addr) (fd : FuncData) (cs : List (Addr × Addr)), (∀ p ∈ cs, h.get? p.2 = some { cls := .none, data := .fields #[] }) ∧ (∀ p ∈ cs, K.lookup p.2 = none) ∧ (∀ p ∈ cs, PySem.W.CodeHd h p.1 p.2) ∧ (∀ P ∈ tabs, ∃ p ∈ cs, p.2 = P) ∧
    (∀ (s : Shared) (u : Value), BindsTo s fd ⟨[u], []⟩ [(x, u)]) ∧ ∀ base : Heap, K.In base → base.Ns mainGlobals mg → (∀ p ∈ cs, LamX.TabB base mg p.1 p.2) → FnOk l.prog w K mg base (L2N.CX l.prog w) k fa fd [x] (spP K ec 1 g)
theorem walk_D {l : PySem.W.OpenLaw} {n k : Nat} {q : Program} {loose : List Str} {XP : (Str → Option Value) → Heap → Prop} {YP : World → Heap → Prop} {d : DefRec} {x : Str} {g : List PyData → R PyData}
    (hn : l.most = some n) (hn2 : n ≤ sizeLine) (hdf : d.params.defaults = []) (hr : Room k callerA)
    (F : ∀ (w : World) (mg : Str → Option Value) (fa : Addr) (h : Heap), YP w h → h.Ns mainGlobals mg → mg d.name = some (.ref fa) → ∃ K : PySem.W.Frag, K.In h ∧ AtHead l w mg fa h k x g K)
    (hg : ∀ ns : List Int, ns.length ≤ n → g [.list (ns.map PyData.int)] = .ok (.bool true)) : PySem.W.WalkO q loose XP YP l.row.toRowW d [] (fun f vs => PySem.call f vs) := by
  refine Att.attach_callB hn hdf fun w s₀ s₁ mg mb fa o pm cd doc a vs ns G Y ho hd hcd hmg hobj hints hlen hbits hgen => ?_
  obtain ⟨K, KX, ec, fd, cs, hT, nT, C, hcs, hb, hF⟩ := F w mg fa _ Y G.T.g hmg
  refine LamX.law_callTs KX G.T.g G.T.b G.T.builtins G.T.nolimit hgen hT nT C G.T.bmain hobj hints (Nat.le_trans hlen hn2) hr hF hb (fun H hH hS => ⟨rfl, H, [.list (ns.map PyData.int)], fun P hP => ?_, Same.refl _, .cons (.lst ?_ (repA_ints ns)) .nil, ?_⟩) fun H e s' h => ?_
  · obtain ⟨p, hp, e⟩ := hcs P hP
    rw [← e]
    exact NdefX.TabN.nil (hH p hp)
  · rcases hS with hS | ⟨o', its, m, h1, h2, h3, h4, h5, h6⟩
    · exact .inl hS
    · have e := KX a o' h1
      rw [hobj] at e
      cases e
      injection h4 with h4 _
      subst h4
      rw [List.size_toArray] at h5
      exact .inr ⟨vs, _, h1, h5, by simpa using h6⟩
  · rw [hg ns hlen]
    intro v G' H' _ r
    cases r
    rfl
  · obtain ⟨_, _, _, _, _, _, _, _, _, _, _, _, z⟩ := h
    exact z.elim
/-- without tables -/
theorem AtHead.plain {l : PySem.W.OpenLaw} {w : World} {mg : Str → Option Value} {fa : Addr} {h : Heap} {k : Nat} {x : Str} {g : List PyData → R PyData} {K : PySem.W.Frag} (ht : tabs = [])
    (F : ∃ (ec : Nat → Addr) (fd : FuncData), (∀ (s : Shared) (u : Value), BindsTo s fd ⟨[u], []⟩ [(x, u)]) ∧ ∀ base : Heap, K.In base → base.Ns mainGlobals mg → FnOk l.prog w K mg base (L2N.CX l.prog w) k fa fd [x] (spP K ec 1 g)) : AtHead l w mg fa h k x g K := by
  obtain ⟨ec, fd, hb, hF⟩ := F
  refine ⟨ec, fd, [], ?_, ?_, ?_, ?_, hb, fun base h1 h2 _ => hF base h1 h2⟩
  · intro p hp; cases hp
  · intro p hp; cases hp
  · intro p hp; cases hp
  · intro P hP; rw [ht] at hP; cases hP
end PL
/-! PL, part k: how the reckonings come out (rows for simp). -/
namespace PL
open PySem PySem.Spec PyProof.Rows L2

/-! ### texts -/
theorem strOk_of (s : String) : PyData.strOk (Str.ofString s) = true := by
  rw [Str.ofString_eq_toList]
  unfold PyData.strOk
  rw [Array.all_eq_true]
  intro i hi
  simp only [List.getElem_toArray, List.getElem_map, decide_eq_true_eq]
  have h := (s.toList[i]'(by simpa using hi)).valid
  unfold Nat.isValidChar UInt32.isValidChar at h
  show (s.toList[i]'(by simpa using hi)).toNat < 0x110000
  unfold Char.toNat
  rcases h with h | h
  · have : (s.toList[i]'(by simpa using hi)).val.toNat < 0xd800 := h
    omega
  · exact h.2
theorem ofString_inj {a b : String} : Str.ofString a = Str.ofString b ↔ a = b := by
  refine ⟨fun h => ?_, fun h => by rw [h]⟩
  rw [Str.ofString_eq_toList, Str.ofString_eq_toList] at h
  have h1 : a.toList.map Char.toNat = b.toList.map Char.toNat := by
    have := congrArg (fun s : Str => s.cps.toList) h
    simpa using this
  have inj : ∀ {x y : List Char}, x.map Char.toNat = y.map Char.toNat → x = y := by
    intro x
    induction x with
    | nil => intro y h; cases y with
      | nil => rfl
      | cons _ _ => cases h
    | cons c r ih =>
      intro y h
      cases y with
      | nil => cases h
      | cons d s =>
        rw [List.map_cons, List.map_cons] at h
        injection h with h1 h2
        rw [Char.toNat_inj.mp h1, ih h2]
  exact String.toList_inj.mp (inj h1)

/-! ### data of a depth -/
def Shp (n : Nat) (d : PyData) : Prop := d.canLay0 = true ∧ d.depth ≤ n
def ShpA (n : Nat) (ds : List PyData) : Prop := PyData.canLayAll0 ds = true ∧ PyData.depthAll ds ≤ n
theorem shaped_of {n : Nat} {d : PyData} (h : Shp n d) (hn : n ≤ 64) : SeqAt.shaped d = true := by
  unfold SeqAt.shaped
  rw [Bool.and_eq_true, decide_eq_true_eq]
  exact ⟨h.1, Nat.le_trans h.2 hn⟩
theorem shp_int (n : Nat) (i : Int) : Shp n (.int i) := ⟨by simp [PyData.canLay0], by simp [PyData.depth]⟩
theorem shp_bool (n : Nat) (i : Bool) : Shp n (.bool i) := ⟨by simp [PyData.canLay0], by simp [PyData.depth]⟩
theorem shp_none (n : Nat) : Shp n .none := ⟨by simp [PyData.canLay0], by simp [PyData.depth]⟩
theorem shp_str (n : Nat) {x : Str} (h : PyData.strOk x = true) : Shp n (.str x) := ⟨by simpa [PyData.canLay0] using h, by simp [PyData.depth]⟩
theorem shpA_nil (n : Nat) : ShpA n [] := ⟨by simp [PyData.canLayAll0], by simp [PyData.depthAll]⟩
theorem shpA_cons {n : Nat} {d : PyData} {ds : List PyData} (h : Shp n d) (r : ShpA n ds) : ShpA n (d :: ds) := by
  refine ⟨?_, ?_⟩
  · simp only [PyData.canLayAll0, Bool.and_eq_true]
    exact ⟨h.1, r.1⟩
  · simp only [PyData.depthAll]
    have h1 := h.2
    have h2 := r.2
    omega
theorem shp_list {n : Nat} {ds : List PyData} (h : ShpA n ds) : Shp (n + 1) (.list ds) := by
  refine ⟨by simpa [PyData.canLay0] using h.1, ?_⟩
  simp only [PyData.depth]
  have := h.2
  omega
theorem shp_tuple {n : Nat} {ds : List PyData} (h : ShpA n ds) : Shp (n + 1) (.tuple ds) := by
  refine ⟨by simpa [PyData.canLay0] using h.1, ?_⟩
  simp only [PyData.depth]
  have := h.2
  omega
theorem shpA_of {n : Nat} : ∀ {ds : List PyData}, (∀ d ∈ ds, Shp n d) → ShpA n ds
  | [], _ => shpA_nil n
  | d :: ds, h => shpA_cons (h d List.mem_cons_self) (shpA_of fun x hx => h x (List.mem_cons_of_mem _ hx))
theorem shpA_ints (n : Nat) (ns : List Int) : ShpA n (ns.map PyData.int) := shpA_of fun d hd => by
  obtain ⟨i, _, rfl⟩ := List.mem_map.mp hd
  exact shp_int n i
theorem Shp.mono {n m : Nat} {d : PyData} (h : Shp n d) (e : n ≤ m) : Shp m d := ⟨h.1, Nat.le_trans h.2 e⟩
@[simp] theorem shaped_int (i : Int) : SeqAt.shaped (.int i) = true := shaped_of (shp_int 0 i) (by decide)
@[simp] theorem shaped_bool (i : Bool) : SeqAt.shaped (.bool i) = true := shaped_of (shp_bool 0 i) (by decide)
@[simp] theorem shaped_none : SeqAt.shaped .none = true := shaped_of (shp_none 0) (by decide)
@[simp] theorem shaped_str (s : String) : SeqAt.shaped (.str (Str.ofString s)) = true := shaped_of (shp_str 0 (strOk_of s)) (by decide)
@[simp] theorem shaped_nilL : SeqAt.shaped (.list []) = true := shaped_of (shp_list (shpA_nil 0)) (by decide)
@[simp] theorem shaped_nilT : SeqAt.shaped (.tuple []) = true := shaped_of (shp_tuple (shpA_nil 0)) (by decide)
@[simp] theorem shaped_ints (ns : List Int) : SeqAt.shaped (.list (ns.map PyData.int)) = true := shaped_of (shp_list (shpA_ints 0 ns)) (by decide)

/-! ### operators -/
section
variable {a b : Int} {x y : PyData}
@[simp] theorem dAdd_int : dAdd (.int a) (.int b) = .ok (.int (a + b)) := rfl
@[simp] theorem dSub_int : dSub (.int a) (.int b) = .ok (.int (a - b)) := rfl
theorem dMul_int (h : mulOk a b = true) : dMul (.int a) (.int b) = .ok (.int (a * b)) := if_pos h
theorem mulOk_r (h1 : -18446744073709551616 < b) (h2 : b < 18446744073709551616) : mulOk a b = true := by
  rw [mulOk_eq]
  simp only [Bool.or_eq_true, Bool.and_eq_true, decide_eq_true_eq]
  exact .inl (.inr ⟨by omega, by omega⟩)
theorem mulOk_l (h1 : -18446744073709551616 < a) (h2 : a < 18446744073709551616) : mulOk a b = true := by
  rw [mulOk_eq]
  simp only [Bool.or_eq_true, Bool.and_eq_true, decide_eq_true_eq]
  exact .inl (.inl ⟨by omega, by omega⟩)
/-- below so many bits -/
def Bd (n : Nat) (a : Int) : Prop := a.natAbs < 2 ^ n
theorem mulOk_bd {n m : Nat} (ha : Bd n a) (hb : Bd m b) (h : n + m ≤ 900000) : mulOk a b = true := by
  have la : a.natAbs.log2 ≤ n := by
    rcases Nat.eq_zero_or_pos a.natAbs with h0 | hp
    · rw [h0]; simp
    · exact Nat.le_of_lt ((Nat.log2_lt (Nat.ne_of_gt hp)).mpr ha)
  have lb : b.natAbs.log2 ≤ m := by
    rcases Nat.eq_zero_or_pos b.natAbs with h0 | hp
    · rw [h0]; simp
    · exact Nat.le_of_lt ((Nat.log2_lt (Nat.ne_of_gt hp)).mpr hb)
  rw [mulOk_eq]
  simp only [Bool.or_eq_true, decide_eq_true_eq]
  exact .inr (by omega)
theorem divOk_bd {n : Nat} (h : 0 < b) (hb : Bd n b) (hn : n ≤ 8999) : divOk b = true := by
  have lb : b.natAbs.log2 ≤ n := by
    rcases Nat.eq_zero_or_pos b.natAbs with h0 | hp
    · rw [h0]; simp
    · exact Nat.le_of_lt ((Nat.log2_lt (Nat.ne_of_gt hp)).mpr hb)
  rw [divOk_eq]
  simp only [Bool.and_eq_true, decide_eq_true_eq]
  exact ⟨h, by omega⟩
theorem dDiv_int (h : divOk b = true) : dDiv (.int a) (.int b) = .ok (.int (a / b)) := if_pos h
theorem divOk_small (h : 0 < b) (h2 : b < 18446744073709551616) : divOk b = true := divOk_bd (n := 64) h (by unfold Bd; omega) (by decide)
theorem dMod_int (h : 0 < b) : dMod (.int a) (.int b) = .ok (.int (a % b)) := if_pos h
@[simp] theorem dLt_int : dLt (.int a) (.int b) = .ok (.bool (decide (a < b))) := rfl
@[simp] theorem dLe_int : dLe (.int a) (.int b) = .ok (.bool (decide (a ≤ b))) := rfl
@[simp] theorem dGt_int : dGt (.int a) (.int b) = .ok (.bool (decide (b < a))) := rfl
@[simp] theorem dGe_int : dGe (.int a) (.int b) = .ok (.bool (decide (b ≤ a))) := rfl
theorem dEq_shp (hx : SeqAt.shaped x = true) (hy : SeqAt.shaped y = true) : dEq x y = .ok (.bool (PyData.eqv x y)) := if_pos ⟨hx, hy⟩
theorem dNe_shp (hx : SeqAt.shaped x = true) (hy : SeqAt.shaped y = true) : dNe x y = .ok (.bool (!PyData.eqv x y)) := if_pos ⟨hx, hy⟩
@[simp] theorem dEq_int : dEq (.int a) (.int b) = .ok (.bool (decide (a = b))) := by
  rw [dEq_shp (shaped_int a) (shaped_int b)]
  simp only [PyData.eqv]
  by_cases h : a = b <;> simp [h]
@[simp] theorem dNe_int : dNe (.int a) (.int b) = .ok (.bool (!decide (a = b))) := by
  rw [dNe_shp (shaped_int a) (shaped_int b)]
  simp only [PyData.eqv]
  by_cases h : a = b <;> simp [h]
@[simp] theorem dEq_str {s t : String} : dEq (.str (Str.ofString s)) (.str (Str.ofString t)) = .ok (.bool (decide (s = t))) := by
  rw [dEq_shp (shaped_str s) (shaped_str t)]
  simp only [PyData.eqv]
  congr 2
  by_cases h : s = t
  · subst h; simp
  · have : ¬ Str.ofString s = Str.ofString t := fun z => h (ofString_inj.mp z)
    simp [h, this]
@[simp] theorem dNe_str {s t : String} : dNe (.str (Str.ofString s)) (.str (Str.ofString t)) = .ok (.bool (!decide (s = t))) := by
  rw [dNe_shp (shaped_str s) (shaped_str t)]
  simp only [PyData.eqv]
  congr 3
  by_cases h : s = t
  · subst h; simp
  · have : ¬ Str.ofString s = Str.ofString t := fun z => h (ofString_inj.mp z)
    simp [h, this]
theorem dEq_nil (ds : List PyData) (h : SeqAt.shaped (.list ds) = true) : dEq (.list ds) (.list []) = .ok (.bool ds.isEmpty) := by
  rw [dEq_shp h shaped_nilL]
  cases ds <;> simp [PyData.eqv, PyData.eqvAll]
theorem dNe_nil (ds : List PyData) (h : SeqAt.shaped (.list ds) = true) : dNe (.list ds) (.list []) = .ok (.bool (!ds.isEmpty)) := by
  rw [dNe_shp h shaped_nilL]
  cases ds <;> simp [PyData.eqv, PyData.eqvAll]
@[simp] theorem dNeg_int : dNeg (.int a) = .ok (.int (-a)) := rfl
@[simp] theorem dIs_none : dIs x .none = .ok (.bool (isNone x)) := by cases x <;> rfl
@[simp] theorem dIsNot_none : dIsNot x .none = .ok (.bool (!isNone x)) := by cases x <;> rfl
end
theorem atI_of {α : Type} {xs : List α} {i : Nat} (h : i < xs.length) : atI xs (i : Int) = some xs[i] := atI_nat (by simp [h])
theorem dIx_list {xs : List PyData} {i : Nat} (h : i < xs.length) : dIx (.list xs) (.int (i : Int)) = .ok xs[i] := by
  unfold dIx
  dsimp only
  rw [atI_of h]
theorem dIx_tuple {xs : List PyData} {i : Nat} (h : i < xs.length) : dIx (.tuple xs) (.int (i : Int)) = .ok xs[i] := by
  unfold dIx
  dsimp only
  rw [atI_of h]
theorem dIx_any {xs : List PyData} {i : Int} (h0 : 0 ≤ i) (h1 : i < xs.length) : ∃ x, dIx (.list xs) (.int i) = .ok x ∧ x ∈ xs := by
  have h : i.toNat < xs.length := by omega
  refine ⟨xs[i.toNat], ?_, List.getElem_mem h⟩
  have e := dIx_list h
  rwa [show ((i.toNat : Nat) : Int) = i by omega] at e
section
variable {a b c d : PyData} {r : List PyData}
@[simp] theorem dIx_l0 : dIx (.list (a :: r)) (.int 0) = .ok a := dIx_list (i := 0) (by simp)
@[simp] theorem dIx_l1 : dIx (.list (a :: b :: r)) (.int 1) = .ok b := dIx_list (i := 1) (by simp)
@[simp] theorem dIx_l2 : dIx (.list (a :: b :: c :: r)) (.int 2) = .ok c := dIx_list (i := 2) (by simp)
@[simp] theorem dIx_t0 : dIx (.tuple (a :: r)) (.int 0) = .ok a := dIx_tuple (i := 0) (by simp)
@[simp] theorem dIx_t1 : dIx (.tuple (a :: b :: r)) (.int 1) = .ok b := dIx_tuple (i := 1) (by simp)
@[simp] theorem dIx_t2 : dIx (.tuple (a :: b :: c :: r)) (.int 2) = .ok c := dIx_tuple (i := 2) (by simp)
@[simp] theorem dIx_t3 : dIx (.tuple (a :: b :: c :: d :: r)) (.int 3) = .ok d := dIx_tuple (i := 3) (by simp)
@[simp] theorem toB_bool {b : Bool} : toB (.ok (.bool b)) = .ok b := rfl
@[simp] theorem gLen_list : gLen [.list r] = .ok (.int r.length) := rfl
@[simp] theorem gLen_tuple : gLen [.tuple r] = .ok (.int r.length) := rfl
@[simp] theorem gInt_bool {b : Bool} : gInt [.bool b] = .ok (.int (if b then 1 else 0)) := rfl
@[simp] theorem gInt_int {i : Int} : gInt [.int i] = .ok (.int i) := rfl
@[simp] theorem gAbs_int {i : Int} : gAbs [.int i] = .ok (.int (if i < 0 then -i else i)) := rfl
@[simp] theorem gMax2_int {i j : Int} : gMax2 [.int i, .int j] = .ok (.int (if j > i then j else i)) := rfl
@[simp] theorem gMin2_int {i j : Int} : gMin2 [.int i, .int j] = .ok (.int (if j < i then j else i)) := rfl
@[simp] theorem res_rt {d : PyData} : (Out.rt d).res = .ok d := rfl
@[simp] theorem res_nx {e : Ev} : (Out.nx e).res = .ok .none := rfl
@[simp] theorem res_ex {c : Nat} : (Out.ex c).res = .ex c := rfl
theorem isi_simp_int (d : PyData) : dIsi "int" d = .ok (.bool (is_int d)) := isi_int d
end
/-- a loop keeps what each turn keeps -/
theorem forF_inv {tg : GF} {body : SF} (I : Ev → Prop) : ∀ (ds : List PyData) (env : Ev), I env → (∀ d ∈ ds, ∀ env, I env → ∃ e1 e2, tg d env = some e1 ∧ body e1 = .nx e2 ∧ I e2) → ∃ e, forF tg body ds env = .nx e ∧ I e
  | [], env, h, _ => ⟨env, rfl, h⟩
  | d :: ds, env, h, hs => by
    obtain ⟨e1, e2, h1, h2, h3⟩ := hs d List.mem_cons_self env h
    obtain ⟨e, h4, h5⟩ := forF_inv I ds e2 h3 fun x hx => hs x (List.mem_cons_of_mem _ hx)
    refine ⟨e, ?_, h5⟩
    unfold forF
    rw [h1]
    dsimp only
    rw [h2, Out.loop_nx, h4]
theorem mem_rngF {lo : Int} {n : Nat} {d : PyData} (h : d ∈ rngF lo n) : ∃ k : Int, d = .int k ∧ lo ≤ k ∧ k < lo + n := by
  unfold rngF at h
  obtain ⟨i, hi, rfl⟩ := List.mem_map.mp h
  exact ⟨_, rfl, by omega, by have := List.mem_range.mp hi; omega⟩
end PL
/-! PL, part x: exceptions: raise, what runs while one is handled, try. -/
namespace PL
open PySem PySem.Spec PyProof.Rows L2

/-! ### raise -/
def veB : List Value := [.type "ValueError", .type "Exception", .type "BaseException", .type "object"]
structure ExcD (K : PySem.W.Frag) (mg : Str → Option Value) (ec : Nat → Addr) (x : Str) (c : Nat) : Prop where
  g : mg x = some (.ref (ec c))
  q : PySem.W.excIn K (ec c) veB "ValueError.__new__" = true
  k : PySem.W.keepIn K (.ref (ec c)) = true
  s : PySem.W.subIn K (.ref (ec c)) (.type "BaseException") = some true
  t : PySem.W.typeIn K (.ref (ec c)) = some (.type "type")
def sRaise (c : Nat) (_ : Ev) : Out := .ex c
theorem ss_raise {X : Cx} {ec : Nat → Addr} {W : WX} {G0 H0 : Hp} {x m : Str} {c j : Nat} {p p2 p3 pos : Pos} (D : ExcD X.K X.mg ec x c) (tk : L2N.Takes X W) (hc : X.calm = true) (hg : Gl X x := by rfl) (hdb : (x == ("__debug__" : Str)) = false := by decide) :
    PS X (.Raise (some (.Call (.Name x p) [.Constant (.str m) j p2] [] p3)) none pos) (tDS X.K ec W G0 H0 (sRaise c)) :=
  PS_imp (L2N.ps_raise hc tk (L2N.pmk_own PySem.F.excBase_ValueError D.q D.g D.k (raises_own D.s D.t) hg hdb)) fun Dd σ H ⟨G, env, S, p⟩ => p σ H S.x.h

/-! ### while an exception is handled: a list's end -/
section
variable {prog : Program} {w : World} {A : Around} {E : Value → Shared → Prop} {s : Shared}
theorem list_end_hot {it l x1 : Addr} {i : Nat} {items : Array Value} {Q : Option Value → Shared → Prop} (hot : HotX.HotAt A x1 s.heap) (hit : s.heap.IsListIter it l i) (hl : s.heap.IsList l items) (hx : items[i]? = none)
    (hQ : ∀ h', (∀ b o, b ≠ it → s.heap.get? b = some o → h'.get? b = some o) → Q none { s with heap := h' }) : wpAny (model prog w) A (pyNext (.ref it)) Q E s := by
  obtain ⟨o, ho, hc, hd⟩ := id hit
  obtain ⟨ol, hol, _, nl, hdl⟩ := hl
  obtain ⟨hh, o1, vs1, h1, d1, c1⟩ := hot
  have ne : x1 ≠ it := fun z => by
    subst z
    rw [ho] at h1
    cases h1
    rw [hd] at d1
    cases d1
    cases c1
  unfold pyNext
  refine wpAny_bind (wpAny_attempt (wpAny_callSpecial?_slot (name := Str.ofString "__next__") hit.typeIs slot_listiter_next (wpAny_call_entry slot_listiter_next hit.typeIs entry_listiter_next ?_ (args_listiter_next _))))
  show wpAny _ _ (field (.ref it) 0 >>= _) _ _ s
  refine wpAny_bind (wpAny_field ho hd (x := .ref l) rfl ?_)
  show wpAny _ _ (if (Value.ref l == Value.none) = true then _ else _) _ _ s
  rw [if_neg (show ¬ ((Value.ref l == Value.none) = true) from Bool.false_ne_true)]
  show wpAny _ _ (field (.ref it) 1 >>= _) _ _ s
  refine wpAny_bind (wpAny_field ho hd (x := .int i 0) rfl ?_)
  show wpAny _ _ (seqItems? (.ref l) >>= _) _ _ s
  refine wpAny_bind (wpAny_seqItems hol hdl ?_)
  simp only [Int.toNat_natCast, hx]
  refine wpAny_bind (wpAny_rule (wpAny_bind (wpAny_setField ho hd (by simp) ?_)))
  have h1' := (Heap.get?_update_other s.heap (Obj.mapFields (·.setIfInBounds 0 Value.none)) (Ne.symm ne)).trans h1
  show wpAny _ _ (newExc (.type "StopIteration") [] >>= _) _ _ _
  refine wpAny_bind ?_
  simp only [newExc, newTuple]
  refine wpAny_bind (wpAny_newObj_type ?_ (by size_fits))
  refine wpAny_bind (m := firstArgMember _ _) (wpAny_of_eq (a := Value.none) (by first | rfl | (simp only [firstArgMember]; rfl)) ?_)
  refine wpAny_newObj_type ?_ (by size_fits)
  refine HotX.raiseNew_hot ⟨hh, o1, vs1, Heap.get?_push_of_some _ (Heap.get?_push_of_some _ h1'), d1, c1⟩ (Nat.ne_of_lt (Heap.lt_size (Heap.get?_push_of_some _ h1'))) (Heap.get?_push_size _ rfl) rfl (by first | (simp; done) | (simp; omega)) ?_
  refine wpAny_bind (wpAny_isInstance (T := "StopIteration") (b := true) ⟨_, Heap.get?_update_self _ (Heap.get?_push_size _ rfl) rfl, rfl⟩ isSubtype_stop ?_)
  refine wpAny_pure (hQ _ fun b o hb e => ?_)
  have e' := (Heap.get?_update_other s.heap (Obj.mapFields (·.setIfInBounds 0 Value.none)) (Ne.symm hb)).trans e
  rw [Heap.get?_update_other _ _ (Nat.ne_of_gt (Heap.lt_size (Heap.get?_push_of_some _ e')))]
  exact Heap.get?_push_of_some _ (Heap.get?_push_of_some _ e')
/-- a list's walk there -/
theorem walks_hot {x1 : Addr} {o1 : Obj} {vs1 : Array Value} (hh : A.handled = some (.ref x1)) (d1 : o1.data = .fields vs1) (c1 : vs1[2]? = some .none) (I ax : Addr) (hne : ax ≠ I) (h1 : x1 ≠ I) (items : Array Value) :
    Walks prog w A I [I, ax, x1] [I] items.size (fun i v => items[i]? = some v) (fun i h => h.IsListIter I ax i ∧ h.IsList ax items ∧ h.get? x1 = some o1) where
  sub := fun b hb => by simp at hb; simp [hb]
  frame := fun _ _ _ st hk => ⟨st.1.at fun o e => hk I (by simp) o e, st.2.1.at fun o e => hk ax (by simp) o e, hk x1 (by simp) _ st.2.2⟩
  item := fun i s Q E hi st hQ => by
    refine wpAny_pyNext_list_item st.1 st.2.1 (x := items[i]) (by simp [hi]) fun h' hit' hs' => ?_
    exact hQ _ h' s.toks (by simp [hi]) ⟨hit', st.2.1.extBut hs'.extBut hne, hs'.extBut x1 _ h1 st.2.2⟩ fun b o hb e => hs'.extBut b o (fun h => hb (by simp [h])) e
  done := fun s Q E st hQ => list_end_hot ⟨hh, o1, vs1, st.2.2, d1, c1⟩ st.1 st.2.1 (by simp) fun h' he' => hQ h' s.toks fun b o hb e => he' b o (fun h => hb (by simp [h])) e
  self := fun _ _ _ _ st hQ => wpAny_pyIter_listiter st.1 hQ
end
section
variable {X : Cx}
theorem preSum_list (ns : List Int) : ∀ n, n ≤ ns.length → preSum (fun i => ns.getD i 0) n = (ns.take n).sum
  | 0, _ => by simp [preSum]
  | n + 1, h => by
    rw [preSum, preSum_list ns n (by omega), List.take_add_one (l := ns) (i := n)]
    have : ns[n]? = some ns[n] := by simp
    rw [this]
    show _ = (ns.take n ++ [ns[n]]).sum
    rw [List.sum_append]
    simp [List.getD, this]
theorem cr_sumH (hc : L2H.HotC X) : CallR X (.builtin "sum") (rSum X.K) := by
  intro pins s σ H vs us Q I r h
  obtain ⟨a, ns, rfl, hs, q⟩ := h
  obtain ⟨its, rv, hl, _⟩ := I.list hs
  rw [Vals.ref1 r]
  obtain ⟨p, ⟨hh, v1, e1, c1⟩, hp⟩ := hc
  have P1 := (I.pin p (List.mem_append_left _ hp)).1
  have hlI := hl.isList
  have hlt : a < s.heap.objs.size := by obtain ⟨_, e, _⟩ := hlI; exact Heap.lt_size e
  have hpt : p.1 < s.heap.objs.size := Heap.lt_size P1
  refine call_sum_walkG (A := X.A) (wpAny_pyIter_list hlI ?_)
  refine ⟨_, [s.heap.objs.size, a, p.1], _, _, _, _, fun i => ns.getD i 0, rfl, walks_hot (A := X.A.in1) hh e1 c1 s.heap.objs.size a (Nat.ne_of_lt hlt) (Nat.ne_of_lt hpt) its.toArray, ⟨⟨_, Heap.get?_push_size _ rfl, rfl, rfl⟩, hlI.push _, Heap.get?_push_of_some _ P1⟩, fun b hb => ?_, fun i v hv => ?_, fun h' tk t' hk => ?_⟩
  · show b < (s.heap.push _).objs.size
    rw [Heap.size_push]
    simp only [List.mem_cons, List.not_mem_nil, or_false] at hb
    rcases hb with rfl | rfl | rfl
    · exact Nat.lt_succ_self _
    · exact Nat.lt_succ_of_lt hlt
    · exact Nat.lt_succ_of_lt hpt
  · have hv : its[i]? = some v := by simpa using hv
    have hi : i < its.length := (List.getElem?_eq_some_iff.mp hv).1
    have hln := rv.length
    rw [List.length_map] at hln
    have hx : (ns.map V.int)[i]? = some (V.int (ns.getD i 0)) := by
      rw [List.getElem?_map]
      have : ns[i]? = some (ns[i]'(by omega)) := by simp
      rw [this]
      simp [List.getD, this]
    obtain ⟨u, hu, ru⟩ := rv.get hx
    rw [hv] at hu
    cases hu
    exact ru
  · have hln := rv.length
    rw [List.length_map] at hln
    have e : preSum (fun i => ns.getD i 0) its.toArray.size = ns.sum := by
      rw [preSum_list ns _ (by simp; omega)]
      simp [← hln]
    rw [e]
    refine ⟨.int _, H, I.kept fun b o e => hk b o (fun hm => ?_) (Heap.get?_push_of_some _ e), ⟨_, rfl⟩, q⟩
    have hz := Heap.lt_size e
    have hb : b = s.heap.objs.size := by simpa using hm
    rw [hb] at hz
    exact absurd hz (Nat.lt_irrefl _)
end

/-! ### a comprehension there, over a list, its turns leave the heap -/
def tLcH (K : PySem.W.Frag) (tl te : TE) (i0 : Nat) (vs : List Nat) : TE := fun σ H Q => tl σ H fun x H1 => ∃ a xs ys, x = .ref a ∧ LsL K H1 a xs ∧ ys.length = xs.length ∧
  (∀ (i : Nat) (x y : V), xs[i]? = some x → ys[i]? = some y → ∀ H', te ((wipe σ vs).set i0 (some x)) H' fun z H2 => z = y ∧ H2 = H') ∧ ∀ D, H1 D = none → Q (.ref D) (upd H1 D (.lst ys))
theorem upd_upd {H : Hp} {a : Addr} {o o' : HO} : upd (upd H a o) a o' = upd H a o' := by
  funext b
  by_cases h : b = a
  · subst h; rw [upd_same, upd_same]
  · rw [upd_ne h, upd_ne h, upd_ne h]
section
variable {X : Cx}
theorem pe_lcH {elt l : Expr} {y : Str} {i0 : Nat} {scope : Scope} {own : List (Str × Nat)} {pos qp : Pos} {tl te : TE} (hc : L2H.HotC X) (hN : X.N.Nodup) (hl : PE X l tl) (ok : BlkOk X.N X.env.scope scope own) (hi0 : i0 ∈ own.map (·.2))
    (hg : ∀ (s : Shared) (H : Hp) (C : Addr) (cl : List (Str × Addr)) (fp : List Addr), PG (X.blk s H scope (compEnvC scope cl C X.env) fp) (.Name y qp) (gName i0))
    (he : ∀ (s : Shared) (H : Hp) (C : Addr) (cl : List (Str × Addr)) (fp : List Addr), PE (X.blk s H scope (compEnvC scope cl C X.env) fp) elt te) (hs : ∀ x, foldedSetIterable l X.env x = pure x := by intro _; rfl) :
    PE X (.ListComp elt [⟨.Name y qp, l, [], 0⟩] scope pos) (tLcH X.K tl te i0 (own.map (·.2))) := by
  refine ⟨fun pins s σ H Q I h => ?_⟩
  rw [eval_ListComp]
  have hfree : ∀ y ∈ scope.names, y.2 = .free → ∃ c, X.env.cells.lookup y.1 = some c := fun y hy e => (ok.free y hy e).elim (fun k => I.ok.has _ (.inl k)) fun k => I.ok.has _ (.inr k)
  refine wpAny_comprehension_free (use := none) rfl hs (closure_ok hfree) ok.kind (fun y hy e => by rw [ok.uniq y hy, e])
    (thn (hl.run pins s σ H _ I h) fun xv s1 hx => ?_)
  obtain ⟨x, H1, I1, r1, a, xs, ys, rfl, hq, hyl, hturn, hend⟩ := hx
  cases r1
  obtain ⟨its, rv, p, hz⟩ := I1.list hq.sq
  refine wpAny_pyIter_list p.isList ?_
  have hxl := rv.length
  -- the iterator
  generalize hit : s1.heap.objs.size = it
  generalize hs2 : ({ s1 with heap := s1.heap.push { cls := .type "list_iterator", data := .fields #[.ref a, .int 0 0] } } : Shared) = s2
  have e2 : s2.heap = s1.heap.push { cls := .type "list_iterator", data := .fields #[.ref a, .int 0 0] } := by rw [← hs2]
  have I2 : Inv X pins σ H1 s2 := by
    rw [← hs2]
    exact I1.kept (t' := s1.toks) fun b o e => Heap.get?_push_of_some _ e
  have st2 : s2.heap.IsListIter it a 0 := by
    rw [e2, ← hit]
    exact ⟨_, Heap.get?_push_size _ rfl, rfl, rfl⟩
  have fIt : FpOk X pins H1 it := by
    rw [← hit]
    exact I1.fpOk (Nat.le_refl _) (I1.hok.fresh (Nat.le_refl _))
  have ltIt : it < s2.heap.objs.size := by
    rw [e2, Heap.size_push, ← hit]
    exact Nat.lt_succ_self _
  refine wpAny_newObj_type (newEnv_comp ?_) (by show 0 ≤ sizeLine; decide)
  generalize hD : s2.heap.objs.size = D
  have hDn : H1 D = none := I2.hok.fresh (Nat.le_of_eq hD)
  generalize hs3 : ({ s2 with heap := s2.heap.push { cls := .type "list", data := .seq ([] : List Value).toArray } } : Shared) = s3
  have e3 : s3.heap = s2.heap.push { cls := .type "list", data := .seq ([] : List Value).toArray } := by rw [← hs3]
  have I3 : Inv X pins σ (upd H1 D (.lst [])) s3 := by
    rw [← hs3]
    refine I2.laid (t' := s2.toks) (fun b o e => Heap.get?_push_of_some _ e) (Nat.le_of_eq hD) ⟨Nat.zero_le _, [], 0, .nil, ?_⟩
    rw [← hD]
    exact Heap.get?_push_size _ rfl
  have ne1 : it ≠ D := by rw [← hD]; exact Nat.ne_of_lt ltIt
  have f3 : ∀ b ∈ [it], FpOk X pins (upd H1 D (.lst [])) b ∧ b < s3.heap.objs.size := fun b hb => by
    have e : b = it := by simpa using hb
    subst e
    refine ⟨⟨?_, fIt.2⟩, by rw [e3, Heap.size_push]; exact Nat.lt_succ_of_lt ltIt⟩
    rw [upd_ne ne1]
    exact fIt.1
  have st3 : s3.heap.IsListIter it a 0 := st2.at fun o e => by rw [e3]; exact Heap.get?_push_of_some _ e
  have I4 := block_start I3 ok hN f3
  have pg := hg s3 (upd H1 D (.lst [])) s3.heap.objs.size (cellsFrom (s3.heap.objs.size + 1) scope.names (cloFrom X.env.cells scope.names [])) [it]
  have pe := he s3 (upd H1 D (.lst [])) s3.heap.objs.size (cellsFrom (s3.heap.objs.size + 1) scope.names (cloFrom X.env.cells scope.names [])) [it]
  show codeAny _ _ (.compStart (.ListComp elt [⟨.Name y qp, l, [], 0⟩] scope pos) 0 (.ref it) (.ref D) (compEnvC scope (cellsFrom (s3.heap.objs.size + 1) scope.names (cloFrom X.env.cells scope.names [])) s3.heap.objs.size X.env)) (compPost (model X.prog X.w) X.A X.xe none _ (.ref D) s3.heap.objs.size) { s3 with heap := pushCells (s3.heap.push { cls := .type "dict", data := .dict #[] }) scope.names }
  -- the handled exception
  obtain ⟨hp, ⟨hh, v1, d1, c1⟩, hpn⟩ := hc
  have P3 := I3.pin hp (List.mem_append_left _ hpn)
  have hpIt : hp.1 ≠ it := fun z => by
    have q1 := (I1.pin hp (List.mem_append_left _ hpn)).1
    have := Heap.lt_size q1
    rw [z, ← hit] at this
    exact absurd this (Nat.lt_irrefl _)
  generalize hce : compEnvC scope (cellsFrom (s3.heap.objs.size + 1) scope.names (cloFrom X.env.cells scope.names [])) s3.heap.objs.size X.env = ce at I4 pg pe ⊢
  have cL : ce.locals = s3.heap.objs.size := by subst hce; rfl
  generalize hH3 : upd H1 D (.lst []) = H3 at I3 I4 pg pe f3 P3
  generalize hs4 : ({ s3 with heap := pushCells (s3.heap.push { cls := .type "dict", data := .dict #[] }) scope.names } : Shared) = s4 at I4 ⊢
  have st4 : s4.heap.IsListIter it a 0 := st3.at fun o e => by rw [← hs4]; exact pushCells_keeps _ _ _ _ (Heap.get?_push_of_some _ e)
  have hot : ∀ {σ' : L2.St} {H' : Hp} {s' : Shared} {ps : List (Addr × Obj)}, Inv (X.blk s3 H3 scope ce [it]) ps σ' H' s' → HotX.HotAt X.A hp.1 s'.heap := fun {σ' H' s' ps} I' =>
    ⟨hh, hp.2, v1, I'.base.keep hp.1 hp.2 P3.1 P3.2.1 (fun hm => (List.mem_cons.mp (I3.stkSub hp.1 hm)).elim P3.2.2.1 P3.2.2.2.1) (show hp.1 ∉ [it] by simpa using hpIt), d1, c1⟩
  have stat : ∀ {σ' : L2.St} {H' : Hp} {s' : Shared}, Inv (X.blk s3 H3 scope ce [it]) [] σ' H' s' → H' it = none → FpOk (X.blk s3 H3 scope ce [it]) [] H' it := fun {σ' H' s'} I' hn =>
    ⟨hn, (I'.ok.exf it (by show it ∈ [it]; simp)).1, I'.ok.exfs it (by show it ∈ [it]; simp), .inl (by show it ∈ [it]; simp), fun x c e => (I'.ok.exf it (by show it ∈ [it]; simp)).2 x c e, fun p hp => absurd (show p ∈ ([] : List (Addr × Obj)) ++ [] from hp) (by simp)⟩
  have lsD : ∀ zs : List V, LsL X.K (upd H1 D (.lst zs)) a xs := fun zs => ls_same (same_new hDn) hq
  have frD : ∀ zs : List V, (upd H1 D (.lst zs)) it = none := fun zs => by rw [upd_ne ne1]; exact fIt.1
  have loop : codeAny (model X.prog X.w) X.A (.compLoop (.ListComp elt [⟨.Name y qp, l, [], 0⟩] scope pos) 0 (.ref it) (.ref D) ce) (compPost (model X.prog X.w) X.A X.xe none (EP X pins σ Q) (.ref D) s3.heap.objs.size) s4 := by
    refine compLoop_any (fun n s' => ∃ i, i + n = ys.length ∧ Inv (X.blk s3 H3 scope ce [it]) [] (wipe σ (own.map (·.2))) (upd H1 D (.lst (ys.take i))) s' ∧ s'.heap.IsListIter it a i) ?_ ys.length ⟨0, Nat.zero_add _, by rw [List.take_zero, hH3]; exact I4, st4⟩
    rintro n s5 ⟨i, hn, I5, st5⟩
    obtain ⟨its5, rv5, p5, _⟩ := I5.list (lsD _).sq
    have hl5 := rv5.length
    have fp5 := stat I5 (frD _)
    cases n with
    | zero =>
      refine list_end_hot (hot I5) st5 p5.isList (by simp; omega) fun h6 kp => ?_
      obtain ⟨f0, f1, f2, f3', f4, f5⟩ := fp5
      have I6 := I5.turned (h' := h6) (t' := s5.toks) (fun b o hb e => kp b o hb e) f0 f1 f3' f4 f5
      have I7 : Inv X pins σ (upd H1 D (.lst (ys.take i))) { s5 with heap := h6 } := I3.call' (ch := [it]) I6.os I6.base I6.hok I6.bare fun b hb => ⟨(f3 b hb).1.2.2.2.1, (f3 b hb).1.2.1, (f3 b hb).1.2.2.2.2.1, (f3 b hb).1.2.2.2.2.2⟩
      have hi : i = ys.length := by omega
      subst hi
      rw [List.take_length] at I6 I7
      have nC : (upd H1 D (.lst ys)) s3.heap.objs.size = none := by
        have z := I6.free
        rw [show (X.blk s3 H3 scope ce [it]).env.locals = ce.locals from rfl, cL] at z
        exact z
      obtain ⟨m, hm, _⟩ := I6.loc
      have hm : ({ s5 with heap := h6 } : Shared).heap.Ns ce.locals m := hm
      rw [cL] at hm
      refine ⟨m, hm, fun h'' sb => ?_⟩
      obtain ⟨g0, g1, g2, g3, g4, g5⟩ := I3.fpOk (b := s3.heap.objs.size) (Nat.le_refl _) (I3.hok.fresh (Nat.le_refl _))
      exact ⟨.ref D, _, I7.turned (t' := s5.toks) (fun b o hb e => (sb.2 b hb).trans e) nC g1 g3 g4 g5, rfl, hend D hDn⟩
    | succ n =>
      have hi : i < ys.length := by omega
      have hxi : xs[i]? = some (xs[i]'(by omega)) := by simp
      have hyi : ys[i]? = some ys[i] := by simp
      obtain ⟨u, hu, ru⟩ := rv5.get hxi
      refine wpAny_pyNext_list_item st5 p5.isList (x := u) (by simpa using hu) fun h6 st6 sb => ?_
      obtain ⟨f0, f1, f2, f3', f4, f5⟩ := id fp5
      have I6 := I5.turned (h' := h6) (t' := s5.toks) (fun b o hb e => (sb.2 b hb).trans e) f0 f1 f3' f4 f5
      obtain ⟨o6, q1, q2, q3⟩ := id st6
      refine go_of (s := { s5 with heap := h6 }) q1 q2 q3 (by decide) ?_
      have I6' := I6.pinned (fp := [it]) (fun b hb => by
        have e : b = it := by simpa using hb
        subst e
        exact stat I6 (frD _)) (fun b hb => by
        have e : b = it := by simpa using hb
        subst e
        exact ⟨o6, q1, fun v z => by rw [q3] at z; cases z⟩)
      refine thnF (pg.run _ _ _ _ xs[i] u (fun σ2 H2 => σ2 = (wipe σ (own.map (·.2))).set i0 (some xs[i]) ∧ H2 = upd H1 D (.lst (ys.take i))) I6' ru ⟨rfl, rfl⟩) fun _ s8 ⟨σ8, H8, I8, e8, eh8⟩ => ?_
      subst e8 eh8
      refine wpAny_tests_nil ?_
      simp only [if_true]
      refine thnF (pe.run _ s8 _ _ _ I8 (hturn i _ _ hxi hyi _)) fun z s10 ⟨yv, H10, I10, r10, ey, eh⟩ => ?_
      subst ey eh
      refine app_ok (X := X.blk s3 H3 scope ce [it]) I10 upd_same (by rw [List.length_take]; exact Nat.lt_of_le_of_lt (Nat.min_le_left _ _) (Nat.lt_of_lt_of_le hi (by rw [hyl]; exact hz))) r10 fun s11 I11 => ?_
      rw [upd_upd] at I11
      have et : ys.take i ++ [ys[i]] = ys.take (i + 1) := by rw [List.take_add_one, hyi]; rfl
      rw [et] at I11
      refine ⟨n, Nat.lt_succ_self _, i + 1, by omega, (I11.unpinned (pins := [])).weak (by rw [List.length_set]) (fun j v e => ?_), ?_⟩
      · by_cases hj : j = i0
        · subst hj
          rw [wipe_get, if_pos hi0] at e
          cases h : σ[j]? with
          | none => rw [h] at e; cases e
          | some _ => rw [h] at e; cases e
        · rw [List.getElem?_set_ne (Ne.symm hj)]; exact e
      · refine st6.at fun o e => ?_
        exact (I11.pin (it, o) (List.mem_append_right _ (List.mem_append_right _ (mem_pinsAt (by simp) e)))).1
  exact codeAny_compStart_list loop (wpAny_pyIter_listiter st4 loop)
end
end PL
/-! PL, part y: a def that tells a word of the handled exception. -/
namespace PL
open PySem PySem.Spec PyProof.Rows L2

/-- the context bears the exception p of class D -/
structure HeldE (X : Cx) (p : Addr × Obj) (D : Addr) : Prop where
  hp : p ∈ X.pn
  hot : L2H.Hot1 X.A p
  cls : ExcC X.K D
  z : Zc (.ref D) none p.2
  f : ∃ vs, p.2.data = .fields vs
section
variable {X : Cx} {p : Addr × Obj} {D : Addr}
theorem HeldE.hc (h : HeldE X p D) : L2H.HotC X := ⟨p, h.hot, h.hp⟩
theorem call_isW (h : HeldE X p D) : CallR X (.builtin "isinstance") (rIsE X.K D p.1) := by
  intro pins s σ H xs us Q I r q
  obtain ⟨c, cv, b, rfl, hcv, e, q⟩ := q
  obtain ⟨a, oe⟩ := p
  obtain ⟨oc, od, oda, osl⟩ := oe
  obtain ⟨⟨h1, h2⟩, vs, hv⟩ := h.z, h.f
  cases r with
  | cons rx rr =>
    cases rr with
    | cons rt rr =>
      cases rr
      cases rx
      have ec := hcv _ rt
      subst ec
      have hget := (I.pin _ (List.mem_append_left _ h.hp)).1
      dsimp only at h1 h2 hv
      subst h1 h2 hv
      have J : PySem.W.InstAt s.heap a ⟨.ref D, none, .fields vs, osl⟩ D none := ⟨hget, rfl, rfl, trivial⟩
      have C := h.cls
      exact PySem.W.kia_one (PySem.W.handS_kitx_exc C.hg C.hk C.hs C.hd C.ha C.hn C.ht C.hm) I.kIn J e (fun z => nomatch z) fun tk => ⟨.bl b, H, I.kept (t' := tk) fun _ _ z => z, rfl, q⟩
/-- isinstance(e, C), e in slot 0 -/
def tIs (a : Addr) (b : Bool) : TE := fun σ H Q => σ[0]? = some (some (.ref a)) ∧ Q (.bl b) H
/-- the name x is the class cv -/
inductive ClsNm (X : Cx) (x : Str) (cv : Value) : Prop where
  | own {C : Addr} (e : cv = .ref C) (g : X.mg x = some (.ref C))
  | blt {T : String} (e : cv = .type T) (g : X.mg x = none) (b : bootBuiltins x = some (.type T))
theorem pe_isW {e x : Str} {cv : Value} {b : Bool} {p1 p2 p3 p4 : Pos} (h : HeldE X p D) (hg : Gl X "isinstance") (hm : X.mg "isinstance" = none) (hN : X.N[0]? = some e) (hv : Vis X.env.scope e) (hgx : Gl X x) (hx : ClsNm X x cv) (hk : PySem.W.kitOne X.K (.ref D) cv = some b)
    (hd : (e == ("__debug__" : Str)) = false := by decide) (hcd : (e == ("__classdict__" : Str)) = false := by decide) (hnx : x ≠ "__name__" := by decide) (hdx : (x == ("__debug__" : Str)) = false := by decide)
    (he : starEach [.Name e p2, .Name x p3] X.env = (false, eval (.Name e p2) X.env) :: starEach [.Name x p3] X.env := by rfl) : PE X (.Call (.Name "isinstance" p1) [.Name e p2, .Name x p3] [] p4) (tIs p.1 b) := by
  have fin : ∀ (c : V), (∀ u, RelV c u → u = cv) → PE X (.Name x p3) (tC c) → PE X (.Call (.Name "isinstance" p1) [.Name e p2, .Name x p3] [] p4) (tIs p.1 b) := fun c hc pc =>
    PE_imp (pe_callB (t := tCons (tVar 0) (tCons (tC c) tNil)) (call_isW h) hg hm (by decide +kernel) (pa_cons (pe_var hN hv hd hcd) (pa_cons pc pa_nil rfl) he) (by decide) (by decide) he rfl) fun σ H Q ⟨h0, q⟩ => ⟨_, h0, c, cv, b, rfl, hc, hk, q⟩
  cases hx with
  | own e g => subst e; exact fin (.ref _) (fun u r => r) (pe_glob hgx g rfl hdx)
  | blt e g bb => subst e; exact fin (.ty _) (fun u r => r) (pe_bltn hgx g bb rfl hnx hdx)
def tIsL (a : Addr) (bs : List Bool) : TA := fun σ H Q => σ[0]? = some (some (.ref a)) ∧ Q (bs.map V.bl) H
theorem pa_isN {a : Addr} : PA X [] (tIsL a []) := ⟨fun pos pins s σ H Q I q => pa_nil.run pos pins s σ H Q I q.2⟩
theorem pa_isC {a : Addr} {b : Bool} {bs : List Bool} {e : Expr} {es : List Expr} (h1 : PE X e (tIs a b)) (h2 : PA X es (tIsL a bs)) (he : starEach (e :: es) X.env = (false, eval e X.env) :: starEach es X.env := by rfl) : PA X (e :: es) (tIsL a (b :: bs)) :=
  ⟨fun pos pins s σ H Q I q => (pa_cons h1 h2 he).run pos pins s σ H Q I ⟨q.1, q.1, q.2⟩⟩
end

/-- texts -/
def tStrs (ws : List Str) : TA := fun _ H Q => Q (ws.map V.str) H
section
variable {X : Cx}
theorem pa_strN : PA X [] (tStrs []) := ⟨fun pos pins s σ H Q I q => pa_nil.run pos pins s σ H Q I q⟩
theorem pa_strC {x : Str} {ws : List Str} {j : Nat} {p : Pos} {es : List Expr} (h2 : PA X es (tStrs ws)) (he : starEach (.Constant (.str x) j p :: es) X.env = (false, eval (.Constant (.str x) j p) X.env) :: starEach es X.env := by rfl) : PA X (.Constant (.str x) j p :: es) (tStrs (x :: ws)) :=
  ⟨fun pos pins s σ H Q I q => (pa_cons pe_str h2 he).run pos pins s σ H Q I q⟩
end

/-! ### the def's states -/
structure W1 (K : PySem.W.Frag) (a : Addr) (H0 : Hp) (n i : Nat) (fl : List Bool) (σ : L2.St) (H : Hp) : Prop where
  len : σ.length = n
  e : σ[0]? = some (some (.ref a))
  s : Same H0 H
  l : ∃ l, σ[i]? = some (some (.ref l)) ∧ LsL K H l (fl.map V.bl)
section
variable {X : Cx} {p : Addr × Obj} {D : Addr} {H0 : Hp} {n i j c : Nat} {fl bs : List Bool} {es : List Expr} {x y z : Str} {pos p1 p2 p3 p4 p5 p6 p7 p8 : Pos}
/-- flags = [..] -/
theorem sw_new (hN : X.N.Nodup) (ha : PA X es (tIsL p.1 fl)) (hi : X.N[i]? = some x) (hx : Loc X.env.scope x) (hlt : i < n) (h0 : 0 ≠ i) (hl : fl.length ≤ 1000) (hs : swapsWith (.List es p2) (some (.Name x p1)) pos.line X.env = pure false := by rfl) (hf : X.fn x = true ∨ X.env.scope.names.lookup x = some .local := by first | exact .inl rfl | exact .inr rfl) :
    PS X (.Assign [.Name x p1] (.List es p2) pos) (fun D σ H => (σ.length = n ∧ σ[0]? = some (some (.ref p.1)) ∧ Same H0 H) ∧ ∀ σ' H', W1 X.K p.1 H0 n i fl σ' H' → D.nx σ' H') :=
  PS_imp (ps_set (i := i) hN hi hx (pe_lst ha) hs hf) fun D σ H ⟨⟨h1, h2, h3⟩, k⟩ => ⟨h2, Nat.le_of_lt (small1000 (by rw [List.length_map]; exact hl)), fun l hl => k _ _ ⟨by rw [List.length_set]; exact h1, by rw [List.getElem?_set_ne (Ne.symm h0)]; exact h2, h3.trans (same_new hl), l, List.getElem?_set_self (by rw [h1]; exact hlt), .of upd_same⟩⟩
/-- flags = flags + [..] -/
theorem sw_more (hN : X.N.Nodup) (ha : PA X es (tIsL p.1 bs)) (hi : X.N[i]? = some x) (hx : Loc X.env.scope x) (hv : Vis X.env.scope x) (hlt : i < n) (h0 : 0 ≠ i) (hl : fl.length + bs.length ≤ 1000) (hd : (x == ("__debug__" : Str)) = false := by decide) (hcd : (x == ("__classdict__" : Str)) = false := by decide)
    (hs : swapsWith (.BinOp (.Name x p3) .Add (.List es p2) p4) (some (.Name x p1)) pos.line X.env = pure false := by rfl) (hf : X.fn x = true ∨ X.env.scope.names.lookup x = some .local := by first | exact .inl rfl | exact .inr rfl) :
    PS X (.Assign [.Name x p1] (.BinOp (.Name x p3) .Add (.List es p2) p4) pos) (fun D σ H => W1 X.K p.1 H0 n i fl σ H ∧ ∀ σ' H', W1 X.K p.1 H0 n i (fl ++ bs) σ' H' → D.nx σ' H') :=
  PS_imp (ps_set (i := i) hN hi hx (pe_op op_catR (pe_var hi hv hd hcd) (pe_lst ha)) hs hf) fun D σ H ⟨w, k⟩ => by
    obtain ⟨l, h1, h2⟩ := w.l
    refine ⟨_, h1, w.e, Nat.le_of_lt (small1000 (by rw [List.length_map]; omega)), fun l2 n2 => ⟨l, l2, fl.map V.bl, bs.map V.bl, rfl, rfl, ls_same (same_new n2) h2, .of upd_same, Nat.le_of_lt (small1000 (by rw [List.length_map, List.length_map]; exact hl)), fun l3 n3 => k _ _ ⟨by rw [List.length_set]; exact w.len, by rw [List.getElem?_set_ne (Ne.symm h0)]; exact w.e, (w.s.trans (same_new n2)).trans (same_new n3), l3, List.getElem?_set_self (by rw [w.len]; exact hlt), .of ?_⟩⟩⟩
    rw [List.map_append]
    exact upd_same
/-- how many are so -/
def cntB (fl : List Bool) : Int := (fl.map fun b => if b then (1 : Int) else 0).sum
/-- if sum([int(flag) for flag in flags]) != 1 or not isinstance(e, ValueError): return .. -/
theorem sw_if {ev yf : Str} {scope : Scope} {own : List (Str × Nat)} {q1 q2 q3 q4 q5 q6 q7 q8 q9 q10 : Pos} {j1 : Nat} {retS : List Stmt} {tr : TS} (h : HeldE X p D) (hN : X.N.Nodup) (hi : X.N[i]? = some x) (hv : Vis X.env.scope x) (hc : X.N[c]? = some yf) (hlc : c < n) (hic : c ≠ i) (h0c : c ≠ 0)
    (hsum : Gl X "sum" ∧ X.mg "sum" = none) (hint : ∀ (s : Shared) (H : Hp) (C : Addr) (cl : List (Str × Addr)) (fp : List Addr), Gl (X.blk s H scope (compEnvC scope cl C X.env) fp) "int") (hint2 : X.mg "int" = none)
    (ok : BlkOk X.N X.env.scope scope own) (hown : own.map (·.2) = [c])
    (hg : ∀ (s : Shared) (H : Hp) (C : Addr) (cl : List (Str × Addr)) (fp : List Addr), PG (X.blk s H scope (compEnvC scope cl C X.env) fp) (.Name yf q1) (gName c))
    (hvf : ∀ (s : Shared) (H : Hp) (C : Addr) (cl : List (Str × Addr)) (fp : List Addr), PE (X.blk s H scope (compEnvC scope cl C X.env) fp) (.Name yf q2) (tVar c))
    (hb : PE X (.Call (.Name "isinstance" p1) [.Name ev p2, .Name y p3] [] p4) (tIs p.1 true)) (hr : PSs X retS tr)
    (hone : cntB fl = 1) (hd : (x == ("__debug__" : Str)) = false := by decide) (hcd : (x == ("__classdict__" : Str)) = false := by decide)
    (he : ∀ (s : Shared) (H : Hp) (C : Addr) (cl : List (Str × Addr)) (fp : List Addr), starEach [.Name yf q2] (X.blk s H scope (compEnvC scope cl C X.env) fp).env = (false, eval (.Name yf q2) (X.blk s H scope (compEnvC scope cl C X.env) fp).env) :: starEach [] (X.blk s H scope (compEnvC scope cl C X.env) fp).env := by intros; rfl)
    (he2 : starEach [.ListComp (.Call (.Name "int" q3) [.Name yf q2] [] q4) [⟨.Name yf q1, .Name x q5, [], 0⟩] scope q6] X.env = (false, eval (.ListComp (.Call (.Name "int" q3) [.Name yf q2] [] q4) [⟨.Name yf q1, .Name x q5, [], 0⟩] scope q6) X.env) :: starEach [] X.env := by rfl) :
    PS X (.If (.BoolOp .Or [.Compare (.Call (.Name "sum" q7) [.ListComp (.Call (.Name "int" q3) [.Name yf q2] [] q4) [⟨.Name yf q1, .Name x q5, [], 0⟩] scope q6] [] q8) [.NotEq] [.Constant (.int 1) j1 q9] q10, .UnaryOp .Not (.Call (.Name "isinstance" p1) [.Name ev p2, .Name y p3] [] p4) p5] p6) retS [] pos)
      (fun D σ H => W1 X.K p.1 H0 n i fl σ H ∧ ∀ σ' H', W1 X.K p.1 H0 n i fl σ' H' → D.nx σ' H') := by
  have lc := pe_lcH (i0 := c) (y := yf) (qp := q1) (pos := q6) (elt := .Call (.Name "int" q3) [.Name yf q2] [] q4) h.hc hN (pe_var (pos := q5) hi hv hd hcd) ok (by rw [hown]; simp) hg
    (fun s H C cl fp => pe_callTy (t := tCons (tVar c) tNil) (x := "int") (p := q3) (pos := q4) call_int1 (hint s H C cl fp) hint2 (by decide +kernel) (pa_cons (hvf s H C cl fp) pa_nil (he s H C cl fp)) (he := he s H C cl fp) (hpl := rfl))
  have cmp := pt_cmpR (op := .NotEq) (pos := q10) op_ne (pe_callB (p := q7) (pos := q8) (cr_sumH h.hc) hsum.1 hsum.2 (by decide +kernel) (pa_cons lc pa_nil he2) (by decide) (by decide) he2 rfl) (pe_int (i := 1) (j := j1) (pos := q9)) (nomark _)
  refine PS_imp (ps_if (PW.pt (pw_or (pos := p6) cmp (pw_or1 (pos := p6) (pt_not (pos := p5) (pt_val hb))))) hr pss_nil) fun D σ H ⟨w, k⟩ => ?_
  obtain ⟨l, h1, h2⟩ := w.l
  rw [hown]
  refine ⟨_, h1, l, fl.map V.bl, (fl.map fun b => if b then (1 : Int) else 0).map V.int, rfl, h2, by simp, fun m x' y' e1 e2 H' => ?_, fun L nL => ⟨L, fl.map fun b => if b then (1 : Int) else 0, rfl, .inl (.inl upd_same), ?_⟩⟩
  · rw [List.getElem?_map] at e1
    rw [List.getElem?_map, List.getElem?_map] at e2
    cases q : fl[m]? with
    | none => rw [q] at e1; cases e1
    | some b =>
      rw [q] at e1 e2
      cases e1
      cases e2
      refine ⟨_, List.getElem?_set_self ?_, .inr ⟨b, rfl, rfl, rfl⟩⟩
      rw [wipe_length, w.len]
      exact hlc
  · refine ⟨rfl, ?_⟩
    have e1 : (fl.map fun b => if b then (1 : Int) else 0).sum = 1 := hone
    rw [e1]
    refine ⟨false, by simp, ?_⟩
    refine ⟨w.e, ?_⟩
    refine ⟨true, rfl, ?_⟩
    exact k _ _ ⟨w.len, w.e, w.s.trans (same_new nL), l, h1, ls_same (same_new nL) h2⟩
/-- words = [..] -/
theorem sw_words {ws : List Str} (hN : X.N.Nodup) (ha : PA X es (tStrs ws)) (hj : X.N[j]? = some y) (hy : Loc X.env.scope y) (hlt : j < n) (h0 : 0 ≠ j) (hij : i ≠ j) (hl : ws.length ≤ 1000) (hs : swapsWith (.List es p2) (some (.Name y p1)) pos.line X.env = pure false := by rfl) (hf : X.fn y = true ∨ X.env.scope.names.lookup y = some .local := by first | exact .inl rfl | exact .inr rfl) :
    PS X (.Assign [.Name y p1] (.List es p2) pos) (fun D σ H => W1 X.K p.1 H0 n i fl σ H ∧ ∀ σ' H', (W1 X.K p.1 H0 n i fl σ' H' ∧ ∃ l, σ'[j]? = some (some (.ref l)) ∧ LsL X.K H' l (ws.map V.str)) → D.nx σ' H') :=
  PS_imp (ps_set (i := j) hN hj hy (pe_lst ha) hs hf) fun D σ H ⟨w, k⟩ => by
    obtain ⟨l, h1, h2⟩ := w.l
    exact ⟨Nat.le_of_lt (small1000 (by rw [List.length_map]; exact hl)), fun L nL => k _ _ ⟨⟨by rw [List.length_set]; exact w.len, by rw [List.getElem?_set_ne (Ne.symm h0)]; exact w.e, w.s.trans (same_new nL), l, by rw [List.getElem?_set_ne (Ne.symm hij)]; exact h1, ls_same (same_new nL) h2⟩, L, List.getElem?_set_self (by rw [w.len]; exact hlt), .of upd_same⟩⟩
/-- return words[flags.index(True)] -/
theorem sw_ret {ws : List Str} {wd : Str} {m j1 : Nat} {q1 q2 : Pos} (hi : X.N[i]? = some x) (hv : Vis X.env.scope x) (hj : X.N[j]? = some y) (hvj : Vis X.env.scope y) (hm : fl[m]? = some true) (hb : ∀ m', m' < m → fl[m']? = some false) (hw : ws[m]? = some wd)
    (hd : (x == ("__debug__" : Str)) = false := by decide) (hcd : (x == ("__classdict__" : Str)) = false := by decide) (hdj : (y == ("__debug__" : Str)) = false := by decide) (hcdj : (y == ("__classdict__" : Str)) = false := by decide)
    (hbase : attributeBase (.Name x p1) "index" X.env (eval (.Name x p1) X.env) = eval (.Name x p1) X.env := by rfl) (hline : (p2.endLine == p4.line) = true := by rfl)
    (hfew : ((backTo p4 (starEach [.Constant (.bool true) j1 p3] X.env)).all (fun x => !x.1) && (backToKw p4 (keywordEach [] X.env)).all (fun x => x.1.isSome)
      && decide (([.Constant (.bool true) j1 p3] : List Expr).length + ([] : List Keyword).length + (if ([] : List Keyword).isEmpty then 0 else 1) < 30)) = true := by rfl)
    (hst : starEach [.Constant (.bool true) j1 p3] X.env = (false, eval (.Constant (.bool true) j1 p3) X.env) :: starEach [] X.env := by rfl) :
    PS X (.Return (some (.Subscript (.Name y q1) (.Call (.Attribute (.Name x p1) "index" p2) [.Constant (.bool true) j1 p3] [] p4) q2)) pos)
      (fun D σ H => (W1 X.K p.1 H0 n i fl σ H ∧ ∃ l, σ[j]? = some (some (.ref l)) ∧ LsL X.K H l (ws.map V.str)) ∧ ∀ H', Same H0 H' → D.rt (.str wd) H') :=
  PS_imp (ps_ret (pe_ix ix_list (pe_var hj hvj hdj hcdj) (pe_bm PySem.F.plainAttrs_list PySem.F.slot_list_index PySem.F.type_list_index mt_index (pe_var hi hv hd hcd) (pa_cons pe_bl pa_nil hst) hbase hfew hline hst rfl) (fun _ _ => rfl))) fun D σ H ⟨⟨w, L, g1, g2⟩, k⟩ => by
    obtain ⟨l, h1, h2⟩ := w.l
    refine ⟨_, g1, _, h1, .inl ⟨rfl, _, h2.sq⟩, l, fl.map V.bl, .bl true, m, .bl true, rfl, rfl, h2.sq, rfl, ?_, by rw [List.getElem?_map, hm]; rfl, rfl, fun m' z' hlt hz => ?_, L, ws.map V.str, m, .str wd, rfl, rfl, g2.sq, atI_nat (by rw [List.getElem?_map, hw]; rfl), k _ w.s⟩
    · rw [List.all_eq_true]
      intro v hv
      obtain ⟨b, _, rfl⟩ := List.mem_map.mp hv
      rfl
    · rw [List.getElem?_map, hb m' hlt] at hz
      cases hz
      rfl
end
end PL
/-! PL, part z: the word of an exception, told by a def; try. -/
namespace PL
open PySem PySem.Spec PyProof.Rows L2 L2H

/-- a def of one parameter px that tells of the handled exception a word: by its class's number -/
structure FnW (P : Program) (w : World) (K : PySem.W.Frag) (mg : Str → Option Value) (base : Heap) (k : Nat) (f : Addr) (fd : FuncData) (px : Str) (ec : Nat → Addr) (wd : Nat → Option Str) : Prop where
  run : ∀ (A : Around) (outer : List Env) (s : Shared) (H : Hp) (args : Args) (Q : VK) (E : XK) (p : Addr × Obj) (c : Nat) (z : Str), RoomH k A → Hot1 A p → PinOk outer H s p → L2N.Zn (.ref (ec c)) none p.2 → Env0 P w K mg base A outer s H → BindsTo s fd args [(px, .ref p.1)] →
    wd c = some z → (∀ H', Same H H' → Q (.str z) H') → codeAny (model P w) A (.call (.ref f) args) (CR (L2N.CX P w) outer P w H s Q E) s
section
variable {P : Program} {w : World} {K : PySem.W.Frag} {mg : Str → Option Value} {base : Heap}
theorem fn_word {ec : Nat → Addr} {x qual px : Str} {st : Stmt} {f : Addr} {fd : FuncData} {N : List Str} {k : Nat} {wd : Nat → Option Str} (F : Fun K x qual st f fd) (S : FnScope N [px] (defScope st))
    (hbody : ∀ (cdv : Value) (A : Around) (outer : List Env) (s : Shared) (H : Hp) (E : XK) (p : Addr × Obj) (c : Nat) (z : Str), Hot1 A p → RoomH k (A.deeper (envOfC qual (defScope st) s.heap.objs.size f cdv)) → wd c = some z → Zc (.ref (ec c)) none p.2 → (∃ vs, p.2.data = .fields vs) →
      ∃ t, PSs (cxH (L2N.CX P w) P w K mg base N qual (defScope st) f cdv A outer s H E p) (defBody st) t ∧ ∀ D : Ends, (∀ H', Same H H' → D.rt (.str z) H') → t D (start N [.ref p.1]) H) :
    FnW P w K mg base (k + 1) f fd px ec wd := by
  obtain ⟨oc, od, kV, doc, pm, an, cdv, ct, osl, rfl, lk, hcd⟩ := F.ex
  refine ⟨fun A outer s H args Q E p c z hr hot hpin hz e0 hb hwd hq => ?_⟩
  have KX : K.In s.heap := e0.mod.kin.keeps fun b o e => (e0.bs b o e).1
  have lim : s.heap.NoLimit := e0.mod.nolimit.keeps fun b o e => (e0.bs b o e).1
  have hkind : ∀ y ∈ [px].zip [Value.ref p.1], (defScope st).names.lookup y.1 = some .local ∨ ((defScope st).names.lookup y.1 = some .cell ∧ ((cellsFrom (s.heap.objs.size + 1) (defScope st).names []).lookup y.1).isSome = true) := fun y hy =>
    (S.par y.1 (List.of_mem_zip hy).1).elim .inl fun q => .inr ⟨q, PySem.W.cellsFrom_some _ _ _ (.inl q)⟩
  refine codeAny_call_function hr.depth (KX _ _ lk) rfl S.co S.gen rfl (PySem.W.codeRec_of KX hcd) (hb _ _ _ _ ?_)
  refine wpAny_newFunctionEnv_cells S.kind hkind fun env he s1 x => ?_
  subst he
  refine ⟨lim.keeps x.toInCall.keep, codeAny_func ?_⟩
  obtain ⟨vs, hvs, _⟩ := hot.2
  obtain ⟨t, ht, hw⟩ := hbody cdv A outer s H E p c z hot (hr.deeper _) hwd hz.zc ⟨vs, hvs⟩
  have I := inv_startH (CX := L2N.CX P w) (E := E) (us := [.ref p.1]) (vs := [.ref p.1]) S hpin e0 rfl (.cons rfl .nil) x
  refine wpAny_mono (ht.run [] s1 _ H { nx := fun _ H' => Q .non H', rt := Q } I (hw _ hq)) (fun fl s' hs => ?_) fun e s' hs => hs
  cases fl with
  | ret u => obtain ⟨v, σ', H', J, rv, q⟩ := hs; exact ⟨v, H', J.os, J.bare, J.base, J.hok, rv, q⟩
  | next => obtain ⟨σ', H', J, q⟩ := hs; exact ⟨.non, H', J.os, J.bare, J.base, J.hok, rfl, q⟩
  | brk => obtain ⟨_, _, _, q⟩ := hs; exact q.elim
  | cont => obtain ⟨_, _, _, q⟩ := hs; exact q.elim
end
/-- the def by its name -/
structure CalW (P : Program) (w : World) (K : PySem.W.Frag) (mg : Str → Option Value) (base : Heap) (ec : Nat → Addr) (x : Str) (k : Nat) (wd : Nat → Option Str) : Prop where
  ex : ∃ (f : Addr) (fd : FuncData) (px : Str), FnW P w K mg base k f fd px ec wd ∧ mg x = some (.ref f) ∧ PySem.W.keepIn K (.ref f) = true ∧ Binds K fd [px] []
theorem FnW.mono {P : Program} {w : World} {K : PySem.W.Frag} {mg : Str → Option Value} {base : Heap} {j k : Nat} {f : Addr} {fd : FuncData} {px : Str} {ec : Nat → Addr} {wd : Nat → Option Str} (F : FnW P w K mg base j f fd px ec wd) (h : j ≤ k) : FnW P w K mg base k f fd px ec wd :=
  ⟨fun A outer s H args Q E p c z hr => F.run A outer s H args Q E p c z (hr.mono h)⟩
def tWd (i : Nat) (a : Addr) (z : Str) : TE := fun σ H Q => σ[i]? = some (some (.ref a)) ∧ ∀ H', Same H H' → Q (.str z) H'
section
variable {X : Cx} {ec : Nat → Addr} {wd : Nat → Option Str} {k c i : Nat} {z x : Str} {p : Addr × Obj} {e : Expr} {q pos : Pos}
theorem pe_callW (C : CalW X.prog X.w X.K X.mg X.base ec x k wd) (hr : RoomH k X.A) (hp : p ∈ X.pn) (hot : Hot1 X.A p) (hz : L2N.Zn (.ref (ec c)) none p.2) (hwd : wd c = some z) (hg : Gl X x) (he : PE X e (tVar i)) (hdb : (x == ("__debug__" : Str)) = false := by decide)
    (hst : starEach [e] X.env = (false, eval e X.env) :: starEach [] X.env := by rfl) : PE X (.Call (.Name x q) [e] [] pos) (tWd i p.1 z) := by
  obtain ⟨f, fd, px, F, hm, hk, hb⟩ := C.ex
  refine ⟨fun pins s σ H Q I ⟨h0, qq⟩ => ?_⟩
  refine wpAny_Call_Name_kw (ld_glob I hg hm ?_ hdb)
  refine PySem.W.callWith_K (h₀ := X.base) I.ok.mod.kin hk (thn ((pa_cons he pa_nil hst).run pos pins s σ H (fun vs H1 => vs = [V.ref p.1] ∧ H = H1) I ⟨_, h0, rfl, rfl⟩) fun us s1 ⟨vs, H1, I1, r, ev, eH⟩ => ⟨I1.kIn, ?_⟩) hst rfl
  subst ev
  rw [← eH] at I1
  rw [Vals.ref1 r]
  have P1 := I1.pin p (List.mem_append_left _ hp)
  have hpin : PinOk X.stack H s1 p := ⟨P1.1, P1.2.1, fun hm => (List.mem_cons.mp (I1.stkSub p.1 hm)).elim P1.2.2.1 P1.2.2.2.1, P1.2.2.2.2⟩
  have b := hb s1 [.ref p.1] I1.kIn rfl
  refine wpAny_call (codeAny_mono (F.run X.A X.stack s1 H ⟨[.ref p.1], []⟩ Q (fun _ _ _ => False) p c z hr hot hpin hz I1.env0 b hwd qq) fun r s' hq => ?_)
  cases r with
  | error e =>
    obtain ⟨_, _, _, _, _, _, _, _, _, _, _, _, zz⟩ := hq
    exact zz.elim
  | ok fl =>
    cases fl with
    | ret u => exact I1.after hq
    | next => exact hq.elim
    | brk => exact hq.elim
    | cont => exact hq.elim
end

/-! ### try: .. except X as e: return word(e) -/
def sTry (wd : Nat → Option Str) (fb : SF) (env : Ev) : Out := match fb env with
  | .ex c => match wd c with
    | some z => .rt (.str z)
    | none => .no
  | o => o
section
variable {X : Cx} {ec : Nat → Addr} {W : WX} {G0 H0 : Hp} {wd : Nat → Option Str} {k i : Nat} {x xe n : Str} {cT : Addr} {body : List Stmt} {fb : SF} {np q1 q2 q3 q4 pos pos' : Pos}
theorem ss_try (i0 : Same G0 H0) (C : CalW X.prog X.w X.K X.mg X.base ec x k wd) (hr : Room k X.A) (tk : L2N.Takes X W) (hs : X.stack = X.env :: X.outer) (hf : X.env.frame = some X.env.locals) (hN : X.N.Nodup) (hi : X.N[i]? = some n) (hln : X.env.kindOf n = some .local) (hgx : Gl X x) (hge : Gl X xe) (hme : X.mg xe = some (.ref cT))
    (hex : ∀ c z, wd c = some z → PySem.W.exmOne X.K (.ref (ec c)) (.ref cT) = some true)
    (hb : ∀ (W' : WX) (pn : List (Addr × Obj)) (xx : Value → Shared → Prop), L2N.Takes (X.tr pn xx) W' → PassesOwn (model X.prog X.w) X.A X.env xx → PSs (X.tr pn xx) body (tDS X.K ec W' G0 H0 fb))
    (hv : Vis X.env.scope n) (hd : (n == ("__debug__" : Str)) = false := by decide) (hcd : (n == ("__classdict__" : Str)) = false := by decide) (hdx : (x == ("__debug__" : Str)) = false := by decide) (hde : (xe == ("__debug__" : Str)) = false := by decide)
    (hst : starEach [.Name n q2] X.env = (false, eval (.Name n q2) X.env) :: starEach [] X.env := by rfl) :
    PS X (.Try body [.ExceptHandler (some (.Name xe np)) (some n) [.Return (some (.Call (.Name x q1) [.Name n q2] [] q3)) q4] pos'] [] [] pos) (tDS X.K ec W G0 H0 (sTry wd fb)) := by
  have hsu : ∀ (a : Addr) (oe : Obj) (cls : Value) (d : Option Addr) (pn : List (Addr × Obj)), L2N.Zn cls d oe → (∃ vs, oe.data = .fields vs) → PSs (X.suite a ((a, oe) :: pn)) [.Return (some (.Call (.Name x q1) [.Name n q2] [] q3)) q4]
      (fun D σ H => (∃ σ0 : L2.St, σ = σ0.set i (some (.ref a))) ∧ ∃ c z, cls = .ref (ec c) ∧ d = none ∧ wd c = some z ∧ ∀ H', Same H H' → D.rt (.str z) H') := by
    intro a oe cls d pn hz hff
    refine ⟨fun pins s σ H D I h => ?_⟩
    obtain ⟨⟨σ0, e0⟩, c, z, rfl, rfl, hwd, q⟩ := h
    obtain ⟨vs, hvs⟩ := hff
    have hot : Hot1 (X.suite a ((a, oe) :: pn)).A (a, oe) := ⟨rfl, vs, hvs, hz.2.2 vs hvs⟩
    have rh : RoomH k (X.suite a ((a, oe) :: pn)).A := ⟨hr.dp, hr.un⟩
    refine (pss_one (ps_ret (pe_callW (X := X.suite a ((a, oe) :: pn)) (p := (a, oe)) C rh List.mem_cons_self hot hz hwd hgx (pe_var (X := X.suite a ((a, oe) :: pn)) hi hv hd hcd) hdx hst))).run pins s σ H D I ⟨?_, q⟩
    subst e0
    refine List.getElem?_set_self ?_
    have := I.len
    rw [List.length_set] at this
    rw [this]
    exact (List.getElem?_eq_some_iff.mp hi).1
  refine PS_imp (L2N.ps_try_as (np := np) (pos := pos) (pos' := pos') hs hf hN hi hln ⟨hge, hde, .inl hme⟩ tk (tb := fun W' => tDS X.K ec W' G0 H0 fb) hb hsu) fun D σ H ⟨G, env, S, p⟩ => ⟨G, env, S, ?_⟩
  unfold sTry at p
  cases q : fb env with
  | nx e => rw [q] at p; exact p
  | rt d => rw [q] at p; exact p
  | bk e => rw [q] at p; exact p
  | ct e => rw [q] at p; exact p
  | no => rw [q] at p; exact p
  | ex c =>
    rw [q] at p
    dsimp only at p
    cases qw : wd c with
    | none => rw [qw] at p; exact p.elim
    | some z =>
      rw [qw] at p
      intro σ' H' hH
      refine ⟨true, hex c z qw, fun _ a na => ⟨⟨σ', rfl⟩, c, z, rfl, rfl, qw, fun H2 s2 => ?_⟩, fun z => nomatch z⟩
      exact p _ G0 H2 (Ext.heap i0 (hH.trans s2)) (.str z)
end
end PL
/-! PL, part l: in, not in, index, pop, sums of lists that are owned. -/
namespace PL
open PySem PySem.Spec PyProof.Rows L2

/-! ### isinstance of exceptions -/
theorem kit_self {K : PySem.W.Frag} {D : Addr} : PySem.W.kitOne K (.ref D) (.ref D) = some true := by
  unfold PySem.W.kitOne
  rw [if_pos (beq_self_eq_true _)]
theorem kit_other {K : PySem.W.Frag} {C D : Addr} (n : (D == C) = false) (h : PySem.W.hasDictIn K C = true) (t : PySem.W.typeIn K (.ref C) = some (.type "type")) (s : PySem.W.subIn K (.ref D) (.ref C) = some false) : PySem.W.kitOne K (.ref D) (.ref C) = some false := by
  obtain ⟨cd, hc, _⟩ := PySem.W.any_some h
  have e1 : ((PySem.W.clsIn K C).isSome && PySem.W.typeIn K (.ref C) == some (.type "type")) = true := by rw [hc, t] <;> rfl
  have e2 : ¬ ((Value.ref D == Value.ref C) = true) := fun z => by
    have e := Value.ref.inj (beq_iff_eq.mp z)
    rw [e] at n
    simp at n
  unfold PySem.W.kitOne PySem.W.kitCls
  rw [if_neg e2]
  dsimp only
  rw [if_pos e1]
  exact s
theorem kit_ve {K : PySem.W.Frag} {D : Addr} (s : PySem.W.subIn K (.ref D) (.type "ValueError") = some true) : PySem.W.kitOne K (.ref D) (.type "ValueError") = some true := by
  have e2 : ¬ ((Value.ref D == Value.type "ValueError") = true) := fun z => by
    have e := beq_iff_eq.mp z
    cases e
  have e1 : PySem.W.kitMeta "ValueError" = true := by decide +kernel
  unfold PySem.W.kitOne PySem.W.kitCls
  rw [if_neg e2]
  dsimp only
  rw [if_pos e1]
  exact s

/-! ### a datum is like itself -/
mutual
theorem eqv_refl : ∀ d : PyData, d.canLay0 = true → PyData.eqv d d = true
  | .none, _ => by simp [PyData.eqv]
  | .bool b, _ => by simp [PyData.eqv]
  | .int i, _ => by simp [PyData.eqv]
  | .str x, _ => by simp [PyData.eqv]
  | .list xs, h => by
    simp only [PyData.eqv]
    exact eqvAll_refl xs (by simpa [PyData.canLay0] using h)
  | .tuple xs, h => by
    simp only [PyData.eqv]
    exact eqvAll_refl xs (by simpa [PyData.canLay0] using h)
  | .dict _, h => by simp [PyData.canLay0] at h
theorem eqvAll_refl : ∀ ds : List PyData, PyData.canLayAll0 ds = true → PyData.eqvAll ds ds = true
  | [], _ => by simp [PyData.eqvAll]
  | d :: ds, h => by
    simp only [PyData.canLayAll0, Bool.and_eq_true] at h
    simp only [PyData.eqvAll, Bool.and_eq_true]
    exact ⟨eqv_refl d h.1, eqvAll_refl ds h.2⟩
end
theorem canLay_sh {d : PyData} (h : SeqAt.shaped d = true) : d.canLay0 = true := SeqAt.canLay_of_shaped h
theorem dEq_self {d : PyData} (h : SeqAt.shaped d = true) : dEq d d = .ok (.bool true) := by rw [dEq_shp h h, eqv_refl d (canLay_sh h)]
theorem dNe_self {d : PyData} (h : SeqAt.shaped d = true) : dNe d d = .ok (.bool false) := by rw [dNe_shp h h, eqv_refl d (canLay_sh h)]; rfl

theorem szl_big {n : Nat} (h : n ≤ 900000) : n < szl := Nat.lt_of_le_of_lt h (by rw [szl_eq]; decide)
theorem dAdd_list {a b : List PyData} (h : a.length + b.length ≤ 900000) : dAdd (.list a) (.list b) = .ok (.list (a ++ b)) := if_pos (Nat.le_of_lt (szl_big h))
theorem dAdd_tuple {a b : List PyData} (h : a.length + b.length ≤ 900000) : dAdd (.tuple a) (.tuple b) = .ok (.tuple (a ++ b)) := if_pos (Nat.le_of_lt (szl_big h))

/-! ### in -/
def anyEq (x : PyData) (ds : List PyData) : Bool := ds.any fun z => PyData.eqv z x
def dIn (x y : PyData) : R PyData := match y with
  | .list ds => if SeqAt.shaped x = true ∧ SeqAt.shaped (.list ds) = true then .ok (.bool (anyEq x ds)) else .no
  | .tuple ds => if atomic x = true ∧ ds.all atomic = true then .ok (.bool (anyEq x ds)) else .no
  | _ => .no
def dNotIn (x y : PyData) : R PyData := match y with
  | .list ds => if SeqAt.shaped x = true ∧ SeqAt.shaped (.list ds) = true then .ok (.bool (!anyEq x ds)) else .no
  | _ => .no
theorem atomic_flat {K : PySem.W.Frag} {G : Hp} {v : V} {d : PyData} (r : Rep K G v d) (a : atomic d = true) : flatV v = true := by
  cases r with
  | non => rfl
  | bl b => rfl
  | int i => rfl
  | str x => rfl
  | _ => cases a
theorem atomic_eq {K : PySem.W.Frag} {G : Hp} {v w : V} {d e : PyData} (r : Rep K G v d) (s : Rep K G w e) (a : atomic d = true) (b : atomic e = true) : eqV v w = PyData.eqv d e := by
  cases r <;> first | (cases a; done) | skip
  all_goals (cases s <;> first | (cases b; done) | skip)
  all_goals simp [eqV, PyData.eqv]
theorem atomic_all {K : PySem.W.Frag} {G : Hp} : ∀ {vs : List V} {ds : List PyData}, RepA K G vs ds → ds.all atomic = true → vs.all flatV = true
  | _, _, .nil, _ => rfl
  | _, _, .cons h r, a => by
    rw [List.all_cons, Bool.and_eq_true] at a
    rw [List.all_cons, atomic_flat h a.1, atomic_all r a.2]
    rfl
theorem inV_eq {K : PySem.W.Frag} {G : Hp} {x : V} {dx : PyData} (r : Rep K G x dx) (ha : atomic dx = true) : ∀ {vs : List V} {ds : List PyData}, RepA K G vs ds → ds.all atomic = true → inV x vs = anyEq dx ds
  | _, _, .nil, _ => rfl
  | _, _, .cons h t, a => by
    rw [List.all_cons, Bool.and_eq_true] at a
    have ih := inV_eq r ha t a.2
    unfold inV anyEq at ih ⊢
    rw [List.any_cons, List.any_cons, ih, atomic_eq h r a.1 ha]
section
variable {X : Cx} {K : PySem.W.Frag} {ec : Nat → Addr} {W : WX} {a b : Expr} {fa fb : EF} {pos : Pos}
theorem op_inP (hu : X.A.units + 65 < cLine) : OpR X (compareOp .In) (fun x y H Q => rInD X.K x y H Q ∨ rIn X.K false x y H Q) := (op_inD hu).or op_in_seq
theorem od_in : OpD K (fun x y H Q => rInD K x y H Q ∨ rIn K false x y H Q) dIn := by
  intro x y dx dy d G H Q i rx ry h q
  cases ry with
  | @lst l ys es hl r =>
    unfold dIn at h
    dsimp only at h
    split at h
    · rename_i hs
      cases h
      exact .inl ⟨dx, es, (rx.mono i).dp (SeqAt.canLay_of_shaped hs.1), (Rep.mono i (.lst hl r)).dp (SeqAt.canLay_of_shaped hs.2), hs.1, hs.2, q _ G H (Ext.refl i) (.bl _)⟩
    · cases h
  | @tup l ys es hl r =>
    unfold dIn at h
    dsimp only at h
    split at h
    · rename_i hs
      cases h
      refine .inr ⟨l, ys, rfl, .inr (sqT_same i hl), atomic_flat rx hs.1, atomic_all r hs.2, ?_⟩
      rw [if_neg Bool.false_ne_true, inV_eq rx hs.1 r hs.2]
      exact q _ G H (Ext.refl i) (.bl _)
    · cases h
  | _ => cases h
theorem nx_in : NoEx dIn := by
  intro x y c h
  unfold dIn at h
  split at h
  · split at h <;> cases h
  · split at h <;> cases h
  · cases h
theorem od_notIn : OpD K (rNotInD K) dNotIn := by
  intro x y dx dy d G H Q i rx ry h q
  cases ry with
  | @lst l ys es hl r =>
    unfold dNotIn at h
    dsimp only at h
    split at h
    · rename_i hs
      cases h
      exact ⟨dx, es, (rx.mono i).dp (SeqAt.canLay_of_shaped hs.1), (Rep.mono i (.lst hl r)).dp (SeqAt.canLay_of_shaped hs.2), hs.1, hs.2, q _ G H (Ext.refl i) (.bl _)⟩
    · cases h
  | _ => cases h
theorem nx_notIn : NoEx dNotIn := by
  intro x y c h
  unfold dNotIn at h
  split at h
  · split at h <;> cases h
  · cases h
theorem se_in (hu : X.A.units + 65 < cLine) (ha : PE X a (tD X.K ec W fa)) (hb : PE X b (tD X.K ec W fb)) (hm : behindInMarks .In b = false := by rfl) : PE X (.Compare a [.In] [b] pos) (tD X.K ec W (eBin dIn fa fb)) := se_cmp (op_inP hu) od_in nx_in ha hb hm
theorem st_in (hu : X.A.units + 65 < cLine) (ha : PE X a (tD X.K ec W fa)) (hb : PE X b (tD X.K ec W fb)) (hm : behindInMarks .In b = false := by rfl) : PT X (.Compare a [.In] [b] pos) (tDT X.K ec W (bVal (eBin dIn fa fb))) := st_cmp (op_inP hu) od_in nx_in ha hb hm
theorem se_notIn (hu : X.A.units + 65 < cLine) (ha : PE X a (tD X.K ec W fa)) (hb : PE X b (tD X.K ec W fb)) (hm : behindInMarks .NotIn b = false := by rfl) : PE X (.Compare a [.NotIn] [b] pos) (tD X.K ec W (eBin dNotIn fa fb)) := se_cmp (op_notInD hu) od_notIn nx_notIn ha hb hm
theorem st_notIn (hu : X.A.units + 65 < cLine) (ha : PE X a (tD X.K ec W fa)) (hb : PE X b (tD X.K ec W fb)) (hm : behindInMarks .NotIn b = false := by rfl) : PT X (.Compare a [.NotIn] [b] pos) (tDT X.K ec W (bVal (eBin dNotIn fa fb))) := st_cmp (op_notInD hu) od_notIn nx_notIn ha hb hm
end

/-! ### a sum of two lists, new -/
theorem PostN.bind {K : PySem.W.Frag} {ec : Nat → Addr} {W : WX} {σ : L2.St} {G H : Hp} {Q Q' : VK} {r : R PyData} {k : PyData → R PyData} (h : PostN K ec W σ G H Q (r.bind k)) (hk : ∀ v d G' H', r = .ok d → Ext G H G' H' → Rep K G' v d → PostN K ec W σ G' H' Q (k d) → Q' v H') : Post K ec W σ G H Q' r := by
  cases r with
  | ok d => exact fun v G' H' e p => hk v d G' H' rfl e p (PostN.mono e h)
  | ex c => exact h
  | no => exact h
noncomputable def dAddL (x y : PyData) : R PyData := match x, y with
  | .list a, .list b => if a.length + b.length < szl then .ok (.list (a ++ b)) else .no
  | _, _ => .no
section
variable {X : Cx} {ec : Nat → Addr} {W : WX} {G0 H0 : Hp} {a b tg : Expr} {fa fb : EF} {pos p apos cpos : Pos} {i : Nat} {x : Str} {g : GF}
theorem sn_add (ha : PE X a (tD X.K ec W fa)) (hb : PE X b (tD X.K ec W fb)) : PE X (.BinOp a .Add b pos) (tDN X.K ec W (eBin dAddL fa fb)) :=
  PE_imp (pe_op op_catR ha hb) fun σ H Q ⟨G, env, s, E, p⟩ => ⟨G, env, s, E, PostN.bind p fun v d G1 H1 _ e1 r1 p1 => ⟨G1, env, e1.i, E.mono e1.g, PostN.bind p1 fun w d2 G2 H2 _ e2 r2 p2 => by
    cases r1 with
    | @lst l xs ds hl r =>
      cases r2 with
      | @lst m zs es hm r' =>
        unfold dAddL at p2
        dsimp only at p2
        split at p2
        · rename_i hz
          have rr := r.mono e2.g
          exact ⟨l, m, xs, zs, rfl, rfl, ls_same (e2.g.trans e2.i) hl, ls_same e2.i hm, szl_line (by rw [rr.length, r'.length]; exact Nat.le_of_lt hz), fun q nq => p2 q G2 _ (Ext.heap e2.i (same_new nq)) nq (e2.i.free nq) (own_new (rr.append r'))⟩
        · exact p2.elim
      | _ => exact p2.elim
    | _ => exact p2.elim⟩⟩

/-! ### target = xs.pop(), xs owned -/
def sPopT (i : Nat) (tg : GF) (env : Ev) : Out := match env[i]? with
  | some (.ow (.list ds)) => match ds.getLast? with
    | some d => match tg d (env.set i (.ow (.list ds.dropLast))) with
      | some e => .nx e
      | none => .no
    | none => .no
  | _ => .no
theorem RepA.dropLast {K : PySem.W.Frag} {G : Hp} : ∀ {vs : List V} {ds : List PyData}, RepA K G vs ds → RepA K G vs.dropLast ds.dropLast
  | _, _, .nil => .nil
  | _, _, .cons h .nil => .nil
  | _, _, .cons h (.cons h2 r2) => .cons h (RepA.dropLast (.cons h2 r2))
theorem ss_popT (hg : PG X tg (tDG X.K G0 H0 g)) (hi : X.N[i]? = some x := by rfl) (hv : Vis X.env.scope x := by first | exact Or.inl rfl | exact Or.inr (Or.inl rfl) | exact Or.inr (Or.inr rfl)) (hd : (x == ("__debug__" : Str)) = false := by decide) (hcd : (x == ("__classdict__" : Str)) = false := by decide)
    (hline : (apos.endLine == cpos.line) = true := by rfl) (hs : swapsWithSole [tg] (.Call (.Attribute (.Name x p) "pop" apos) [] [] cpos) pos.line X.env = pure false := by rfl) (hw : swappedStores [tg] (.Call (.Attribute (.Name x p) "pop" apos) [] [] cpos) X.env = pure none := by rfl)
    (h1 : (assignEach [tg] X.env).map (·.2) = [assign tg X.env] := by rfl) :
    PS X (.Assign [tg] (.Call (.Attribute (.Name x p) "pop" apos) [] [] cpos) pos) (tDS X.K ec W G0 H0 (sPopT i g)) := by
  refine PS_imp (ps_asg (pe_bm0 PySem.F.plainAttrs_list PySem.F.slot_list_pop PySem.F.type_list_pop mt_pop (pe_var hi hv hd hcd) rfl hline) hg hs hw h1) fun D σ H ⟨G, env, S, pp⟩ => ?_
  unfold sPopT at pp
  split at pp
  · rename_i ds q
    split at pp
    · rename_i d hl
      split at pp
      · rename_i e hg'
        obtain ⟨l, e1, e2, e3, vs, e4, e5⟩ := S.ow i _ q
        have hlen := e5.length
        rw [List.getLast?_eq_getElem?] at hl
        obtain ⟨v, hv1, hv2⟩ := e5.get hl
        refine ⟨_, e1, .inl ⟨rfl, vs, SqL.of e4⟩, l, vs, v, rfl, rfl, e4, by rw [hlen]; exact hv1, ?_⟩
        have S' := S.mut (o := .lst vs.dropLast) (d' := .list ds.dropLast) q e1 ⟨_, upd_same, e5.dropLast⟩
        exact ⟨G, _, d, e, S', hv2, hg', fun σ' S2 => pp σ' G _ (Same.refl _) S2⟩
      · exact pp.elim
    · exact pp.elim
  · exact pp.elim
end
theorem dAddL_list {a b : List PyData} (h : a.length + b.length ≤ 900000) : dAddL (.list a) (.list b) = .ok (.list (a ++ b)) := if_pos (szl_big h)

/-! ### statement by statement -/
@[simp] theorem pur_pu {d : PyData} : (Sl.pu d).pur = some d := rfl
@[simp] theorem pur_ow {d : PyData} : (Sl.ow d).pur = none := rfl
@[simp] theorem pur_no : Sl.no.pur = none := rfl
@[simp] theorem full_pu {d : PyData} : (Sl.pu d).full = some d := rfl
@[simp] theorem full_ow {d : PyData} : (Sl.ow d).full = some d := rfl
@[simp] theorem full_no : Sl.no.full = none := rfl
theorem seq_nx {a b : SF} {env e : Ev} {r : Out} (h : a env = .nx e) (h2 : b e = r) : sSeq a b env = r := by
  unfold sSeq
  rw [h]
  exact h2
theorem seq_rt {a b : SF} {env : Ev} {d : PyData} (h : a env = .rt d) : sSeq a b env = .rt d := by
  unfold sSeq
  rw [h]
  rfl
end PL
/-! PL, part m: < of tuples within one another. -/
namespace PL
open PySem PySem.Spec PyProof.Rows L2

mutual
def ltD : PyData → PyData → Option Bool
  | .int a, .int b => some (decide (a < b))
  | .tuple xs, .tuple ys => ltL xs ys
  | _, _ => none
def ltL : List PyData → List PyData → Option Bool
  | [], [] => some false
  | [], _ :: _ => some true
  | _ :: _, [] => some false
  | x :: xs, y :: ys => match ltL xs ys with
    | none => none
    | some c => if PyData.eqv x y = true then some c else ltD x y
end
def pairLt (xs ys : List PyData) (j : Nat) : Bool := match xs[j]?, ys[j]? with
  | some x, some y => (ltD x y).getD false
  | _, _ => false
theorem lexAt_shift (e r : Nat → Bool) (z : Bool) : ∀ (k i : Nat), Ob.lexAt (fun j => e (j + 1)) (fun j => r (j + 1)) z i k = Ob.lexAt e r z (i + 1) k
  | 0, i => rfl
  | k + 1, i => by rw [Ob.lexAt_succ, Ob.lexAt_succ, lexAt_shift e r z k (i + 1)]
theorem ltL_lex : ∀ (xs ys : List PyData) (b : Bool), ltL xs ys = some b → Ob.lexAt (SeqAt.pairEq xs ys) (pairLt xs ys) (decide (xs.length < ys.length)) 0 (min xs.length ys.length) = b
  | [], [], b, h => by simp only [ltL] at h; cases h; rfl
  | [], _ :: _, b, h => by simp only [ltL] at h; cases h; simp [Ob.lexAt]
  | _ :: _, [], b, h => by simp only [ltL] at h; cases h; simp [Ob.lexAt]
  | x :: xs, y :: ys, b, h => by
    unfold ltL at h
    cases q : ltL xs ys with
    | none => rw [q] at h; cases h
    | some c =>
      rw [q] at h
      dsimp only at h
      have ih := ltL_lex xs ys c q
      have hm : min (x :: xs).length (y :: ys).length = min xs.length ys.length + 1 := by simp only [List.length_cons]; omega
      have hz : decide ((x :: xs).length < (y :: ys).length) = decide (xs.length < ys.length) := by simp
      rw [hm, Ob.lexAt_succ, hz]
      have e0 : SeqAt.pairEq (x :: xs) (y :: ys) 0 = PyData.eqv x y := rfl
      rw [e0]
      by_cases he : PyData.eqv x y = true
      · rw [if_pos he] at h
        cases h
        rw [if_pos he, ← lexAt_shift]
        exact ih
      · rw [if_neg he] at h
        rw [if_neg he]
        simp [pairLt, h]
theorem rcOp_ltD : (∀ (n : Nat) (dx dy : PyData), sizeOf dx ≤ n → ∀ (b : Bool) (A : Around) (s : Shared) (u v : Value) (as bs : List Addr), Reads s.heap u dx as → Reads s.heap v dy bs → dx.canLay0 = true → dy.canLay0 = true → A.units + min dx.depth dy.depth < cLine → ltD dx dy = some b → Ob.RcOp .Lt A s u v b) := by
  intro n
  induction n with
  | zero =>
    intro dx dy hn
    cases dx <;> simp at hn
  | succ n ih =>
    intro dx dy hn b A s u v as bs ru rv cx cy hu h
    cases dx with
    | int a =>
      cases dy with
      | int c =>
        simp only [ltD] at h
        cases h
        cases ru
        cases rv
        exact Ob.RcOp.lt_int _ _ _ _
      | _ => simp [ltD] at h
    | tuple xs =>
      cases dy with
      | tuple ys =>
        simp only [ltD] at h
        cases ru with
        | @tuple a o vs k _ as' ha hc hd rs =>
          cases rv with
          | @tuple a2 o2 vs2 k2 _ as2 ha2 hc2 hd2 rs2 =>
            have cxs : PyData.canLayAll0 xs = true := by simpa [PyData.canLay0] using cx
            have cys : PyData.canLayAll0 ys = true := by simpa [PyData.canLay0] using cy
            simp only [PyData.depth] at hu
            have h1 : s.heap.IsTuple a vs := ⟨o, ha, hc, k, hd⟩
            have h2 : s.heap.IsTuple a2 vs2 := ⟨o2, ha2, hc2, k2, hd2⟩
            have l1 : vs.size = xs.length := by have := SeqAt.ReadsAll.length xs _ _ rs; simpa using this
            have l2 : vs2.size = ys.length := by have := SeqAt.ReadsAll.length ys _ _ rs2; simpa using this
            have hu1 : A.in1.units + min (PyData.depthAll xs) (PyData.depthAll ys) < cLine := by
              show A.units + 1 + min (PyData.depthAll xs) (PyData.depthAll ys) < cLine
              omega
            have key : ∀ (xs ys : List PyData) (vs ws : List Value) (as bs : List Addr) (b : Bool), ReadsAll s.heap vs xs as → ReadsAll s.heap ws ys bs → PyData.canLayAll0 xs = true → PyData.canLayAll0 ys = true → A.in1.units + min (PyData.depthAll xs) (PyData.depthAll ys) < cLine → sizeOf xs ≤ n → ltL xs ys = some b →
                ∀ j (h1 : j < vs.length) (h2 : j < ws.length), SeqAt.pairEq xs ys j = false → Ob.RcOp .Lt A.in1 s vs[j] ws[j] (pairLt xs ys j) := by
              intro xs
              induction xs with
              | nil => intro ys vs ws as bs b r1 r2 _ _ _ _ _ j h1; cases r1; exact absurd h1 (by simp)
              | cons x xs ihx =>
                intro ys vs ws as bs b r1 r2 c1 c2 hu hs hl j h1 h2 hj
                cases ys with
                | nil => cases r2; exact absurd h2 (by simp)
                | cons y ys =>
                  cases r1 with
                  | @cons v1 vs1 _ _ a1 b1 q1 p1 =>
                    cases r2 with
                    | @cons v2 vs2 _ _ a2 b2 q2 p2 =>
                      simp only [PyData.canLayAll0, Bool.and_eq_true] at c1 c2
                      simp only [PyData.depthAll] at hu
                      have hin : A.in1.units = A.units + 1 := rfl
                      simp only [List.cons.sizeOf_spec] at hs
                      unfold ltL at hl
                      cases q : ltL xs ys with
                      | none => rw [q] at hl; cases hl
                      | some c =>
                        rw [q] at hl
                        dsimp only at hl
                        cases j with
                        | zero =>
                          have he : ¬ PyData.eqv x y = true := by
                            have hj : PyData.eqv x y = false := hj
                            rw [hj]; simp
                          rw [if_neg he] at hl
                          have e : pairLt (x :: xs) (y :: ys) 0 = b := by simp [pairLt, hl]
                          rw [e]
                          exact ih x y (by omega) b A.in1 s v1 v2 _ _ q1 q2 c1.1 c2.1 (by omega) hl
                        | succ j =>
                          exact ihx ys vs1 vs2 b1 b2 c p1 p2 c1.2 c2.2 (by omega) (by omega) q j (by simpa using h1) (by simpa using h2) hj
            have hsz : sizeOf xs ≤ n := by simp only [PyData.tuple.sizeOf_spec] at hn; omega
            have R := Ob.RcOp.tuples_lt (A := A) (s := s) (e := SeqAt.pairEq xs ys) (r := pairLt xs ys) h1 h2 (by omega)
              (fun j g1 g2 => by
                have := SeqAt.eqAt_readsAll xs ys A.in1 s vs.toList vs2.toList _ _ rs rs2 cxs cys hu1 j (by simpa using g1) (by simpa using g2)
                simpa using this)
              (fun j g1 g2 hj => by
                have := key xs ys vs.toList vs2.toList _ _ b rs rs2 cxs cys hu1 hsz h j (by simpa using g1) (by simpa using g2) hj
                simpa using this)
            rw [l1, l2, ltL_lex xs ys b h] at R
            exact R
      | _ => simp [ltD] at h
    | _ => simp [ltD] at h
def dLtN (x y : PyData) : R PyData := if SeqAt.shaped x = true ∧ SeqAt.shaped y = true then match ltD x y with
  | some b => .ok (.bool b)
  | none => .no else .no
def rLtN (K : PySem.W.Frag) : R2 := fun x y H Q => ∃ dx dy b, Dp K H x dx ∧ Dp K H y dy ∧ SeqAt.shaped dx = true ∧ SeqAt.shaped dy = true ∧ ltD dx dy = some b ∧ Q (.bl b) H
section
variable {X : Cx} {K : PySem.W.Frag} {ec : Nat → Addr} {W : WX} {a b : Expr} {fa fb : EF} {pos : Pos}
theorem op_ltN (hu : X.A.units + 65 < cLine) : OpR X (compareOp .Lt) (rLtN X.K) := by
  intro pins s σ H x y v u Q I rx ry h
  obtain ⟨dx, dy, b, h1, h2, s1, s2, hl, q⟩ := h
  obtain ⟨as, r1⟩ := Dp.reads I dx x v h1 rx
  obtain ⟨bs, r2⟩ := Dp.reads I dy y u h2 ry
  have hd : dx.depth ≤ 64 := by
    unfold SeqAt.shaped at s1
    rw [Bool.and_eq_true, decide_eq_true_eq] at s1
    exact s1.2
  exact rcOp_ltD _ dx dy (Nat.le_refl _) b X.A s v u as bs r1 r2 (canLay_sh s1) (canLay_sh s2) (by omega) hl X.prog X.w X.xe _ ⟨.bl b, H, I, rfl, q⟩
theorem od_ltN : OpD K (rLtN K) dLtN := by
  intro x y dx dy d G H Q i rx ry h q
  unfold dLtN at h
  split at h
  · rename_i hs
    split at h
    · rename_i b hb
      cases h
      exact ⟨dx, dy, b, (rx.mono i).dp (canLay_sh hs.1), (ry.mono i).dp (canLay_sh hs.2), hs.1, hs.2, hb, q _ G H (Ext.refl i) (.bl _)⟩
    · cases h
  · cases h
theorem nx_ltN : NoEx dLtN := by
  intro x y c h
  unfold dLtN at h
  split at h
  · split at h <;> cases h
  · cases h
theorem se_ltN (hu : X.A.units + 65 < cLine) (ha : PE X a (tD X.K ec W fa)) (hb : PE X b (tD X.K ec W fb)) : PE X (.Compare a [.Lt] [b] pos) (tD X.K ec W (eBin dLtN fa fb)) := se_cmp (op_ltN hu) od_ltN nx_ltN ha hb (nomark _)
theorem st_ltN (hu : X.A.units + 65 < cLine) (ha : PE X a (tD X.K ec W fa)) (hb : PE X b (tD X.K ec W fb)) : PT X (.Compare a [.Lt] [b] pos) (tDT X.K ec W (bVal (eBin dLtN fa fb))) := st_cmp (op_ltN hu) od_ltN nx_ltN ha hb (nomark _)
end

/-! ### xs.index(x) -/
def idxOf (x : PyData) : List PyData → Option Nat
  | [] => none
  | z :: zs => if PyData.eqv z x = true then some 0 else (idxOf x zs).map (· + 1)
def dIndex (l x : PyData) : R PyData := match l with
  | .list ds => if SeqAt.shaped x = true ∧ SeqAt.shaped (.list ds) = true then match idxOf x ds with
    | some j => .ok (.int (j : Nat))
    | none => .no else .no
  | _ => .no
def eIndex (fo fa : EF) (env : List (Option PyData)) : R PyData := (fo env).bind fun l => match l with
  | .list ds => (fa env).bind (dIndex (.list ds))
  | _ => .no
theorem idxOf_ok {x : PyData} : ∀ {ds : List PyData} {j : Nat}, idxOf x ds = some j → ∃ z, ds[j]? = some z ∧ PyData.eqv z x = true ∧ ∀ (m : Nat) (z' : PyData), m < j → ds[m]? = some z' → PyData.eqv z' x = false
  | [], j, h => by cases h
  | z :: zs, j, h => by
    unfold idxOf at h
    split at h
    · rename_i hz
      cases h
      exact ⟨z, rfl, hz, fun m _ hm => absurd hm (by omega)⟩
    · rename_i hz
      cases q : idxOf x zs with
      | none => rw [q] at h; cases h
      | some i =>
        rw [q] at h
        cases h
        obtain ⟨y, h1, h2, h3⟩ := idxOf_ok q
        refine ⟨y, by simpa using h1, h2, fun m z' hm hz' => ?_⟩
        cases m with
        | zero =>
          rw [List.getElem?_cons_zero] at hz'
          cases hz'
          simpa using hz
        | succ m => exact h3 m z' (Nat.lt_of_succ_lt_succ hm) (by simpa using hz')
section
variable {X : Cx} {ec : Nat → Addr} {W : WX} {a o : Expr} {fa fo : EF} {apos cpos : Pos}
theorem se_index (hu : X.A.units + 65 < cLine) (ho : PE X o (tD X.K ec W fo)) (ha : PE X a (tD X.K ec W fa)) (hbase : attributeBase o "index" X.env (eval o X.env) = eval o X.env := by rfl)
    (hfew : ((backTo cpos (starEach [a] X.env)).all (fun x => !x.1) && (backToKw cpos (keywordEach [] X.env)).all (fun x => x.1.isSome)
      && decide (([a] : List Expr).length + ([] : List Keyword).length + (if ([] : List Keyword).isEmpty then 0 else 1) < 30)) = true := by rfl)
    (hline : (apos.endLine == cpos.line) = true := by rfl) (hs : starEach [a] X.env = (false, eval a X.env) :: starEach [] X.env := by rfl) :
    PE X (.Call (.Attribute o "index" apos) [a] [] cpos) (tD X.K ec W (eIndex fo fa)) :=
  PE_imp (pe_bm PySem.F.plainAttrs_list PySem.F.slot_list_index PySem.F.type_list_index (mt_indexD hu) ho (pa_cons ha pa_nil hs) hbase hfew hline hs rfl) fun σ H Q ⟨G, env, s, E, p⟩ => ⟨G, env, s, E, Post.bind p fun v d G1 H1 _ e1 r1 p1 => by
    cases r1 with
    | @lst l xs ds hl r =>
      refine ⟨.inl ⟨rfl, xs, (ls_same e1.i hl).sq⟩, ⟨G1, env, e1.i, E.mono e1.g, Post.bind p1 fun w dw G2 H2 _ e2 r2 p2 => ?_⟩⟩
      unfold dIndex at p2
      dsimp only at p2
      split at p2
      · rename_i hs'
        split at p2
        · rename_i j hj
          obtain ⟨z, z1, z2, z3⟩ := idxOf_ok hj
          exact ⟨l, w, dw, ds, j, z, rfl, rfl, (Rep.mono (e2.g.trans e2.i) (.lst hl r)).dp (canLay_sh hs'.2), (r2.mono e2.i).dp (canLay_sh hs'.1), hs'.2, hs'.1, z1, z2, z3, p2 _ G2 H2 (Ext.refl e2.i) (.int _)⟩
        · exact p2.elim
      · exact p2.elim
    | _ => exact p1.elim⟩
end

/-! ### a global that is a tuple -/
theorem globD_tup {K : PySem.W.Frag} {mg : Str → Option Value} {x : Str} {A : Addr} {its : Array Value} {n : Nat} {od : Option Addr} {sl : Array (Option Value)} {vs : List V} {ds : List PyData} (h : mg x = some (.ref A)) (hk : K.lookup A = some ⟨.type "tuple", od, .seq its n, sl⟩) (hz : its.size ≤ sizeLine) (hv : Vals vs its.toList) (r : ∀ G, RepA K G vs ds) : GlobD K mg x (.tuple ds) :=
  ⟨.ref A, _, h, rfl, fun G => .tup (.inr ⟨_, its, n, hk, rfl, rfl, hz, hv⟩) (r G)⟩
end PL
/-! PL, part r: fractions (plain Lean), loops and comprehensions by what each turn does. -/
namespace PL
open PySem PySem.Spec PyProof.Rows L2

/-! ### turns -/
theorem lcF_map {α : Type} {tg : GE} {tt : TF} {te : EF} {env : List (Option PyData)} (enc : α → PyData) (f : α → PyData) : ∀ xs : List α, (∀ x ∈ xs, ∃ e1, tg (enc x) env = some e1 ∧ tt e1 = .ok true ∧ te e1 = .ok (f x)) → lcF tg tt te (xs.map enc) env = .ok (xs.map f)
  | [], _ => rfl
  | x :: xs, h => by
    obtain ⟨e1, h1, h2, h3⟩ := h x List.mem_cons_self
    have ih := lcF_map enc f xs fun y hy => h y (List.mem_cons_of_mem _ hy)
    rw [List.map_cons, lcF, h1]
    dsimp only
    rw [h2, R.bind_ok, if_pos rfl, h3, R.bind_ok, ih, R.bind_ok, List.map_cons]
theorem lcF_flt {α : Type} {tg : GE} {tt : TF} {te : EF} {env : List (Option PyData)} (enc : α → PyData) (p : α → Bool) (f : α → PyData) : ∀ xs : List α, (∀ x ∈ xs, ∃ e1, tg (enc x) env = some e1 ∧ tt e1 = .ok (p x) ∧ (p x = true → te e1 = .ok (f x))) → lcF tg tt te (xs.map enc) env = .ok ((xs.filter p).map f)
  | [], _ => rfl
  | x :: xs, h => by
    obtain ⟨e1, h1, h2, h3⟩ := h x List.mem_cons_self
    have ih := lcF_flt enc p f xs fun y hy => h y (List.mem_cons_of_mem _ hy)
    rw [List.map_cons, lcF, h1]
    dsimp only
    rw [h2, R.bind_ok]
    by_cases hp : p x = true
    · rw [if_pos hp, h3 hp, R.bind_ok, ih, R.bind_ok, List.filter_cons_of_pos hp, List.map_cons]
    · rw [if_neg hp, ih, List.filter_cons_of_neg hp]
theorem eLc_ok {α : Type} {tg : GE} {fi : LF} {tt : TF} {te : EF} {env : List (Option PyData)} (enc f : α → PyData) (xs : List α) (hi : fi env = .ok (xs.map enc)) (hl : xs.length ≤ 900000) (h : ∀ x ∈ xs, ∃ e1, tg (enc x) env = some e1 ∧ tt e1 = .ok true ∧ te e1 = .ok (f x)) : eLc tg fi tt te env = .ok (.list (xs.map f)) := by
  unfold eLc
  rw [hi, R.bind_ok, lcF_map enc f xs h, R.sure_ok, R.bind_ok]
  unfold lcE
  rw [if_pos (by rw [List.length_map]; exact szl_big hl)]
theorem eLc_flt {α : Type} {tg : GE} {fi : LF} {tt : TF} {te : EF} {env : List (Option PyData)} (enc f : α → PyData) (p : α → Bool) (xs : List α) (hi : fi env = .ok (xs.map enc)) (hl : xs.length ≤ 900000) (h : ∀ x ∈ xs, ∃ e1, tg (enc x) env = some e1 ∧ tt e1 = .ok (p x) ∧ (p x = true → te e1 = .ok (f x))) : eLc tg fi tt te env = .ok (.list ((xs.filter p).map f)) := by
  unfold eLc
  rw [hi, R.bind_ok, lcF_flt enc p f xs h, R.sure_ok, R.bind_ok]
  unfold lcE
  rw [if_pos (by rw [List.length_map]; exact szl_big (Nat.le_trans (List.length_filter_le _ _) hl))]
theorem forF_fold {α β : Type} {tg : GF} {body : SF} (enc : α → PyData) (step : β → α → β) (I : β → Ev → Prop) : ∀ (xs : List α) (b : β) (env : Ev), I b env → (∀ b env, I b env → ∀ x ∈ xs, ∃ e1 e2, tg (enc x) env = some e1 ∧ body e1 = .nx e2 ∧ I (step b x) e2) → ∃ e, forF tg body (xs.map enc) env = .nx e ∧ I (xs.foldl step b) e
  | [], b, env, h, _ => ⟨env, rfl, h⟩
  | x :: xs, b, env, h, hs => by
    obtain ⟨e1, e2, h1, h2, h3⟩ := hs b env h x List.mem_cons_self
    obtain ⟨e, h4, h5⟩ := forF_fold enc step I xs (step b x) e2 h3 fun b env hb y hy => hs b env hb y (List.mem_cons_of_mem _ hy)
    refine ⟨e, ?_, h5⟩
    rw [List.map_cons, forF, h1]
    dsimp only
    rw [h2, Out.loop_nx, h4]

theorem forF_idx {α β : Type} {tg : GF} {body : SF} (enc : α → PyData) (step : β → α → β) (I : Nat → β → Ev → Prop) : ∀ (xs : List α) (k : Nat) (b : β) (env : Ev), I k b env → (∀ i b env, I i b env → k ≤ i → i < k + xs.length → ∀ x ∈ xs, ∃ e1 e2, tg (enc x) env = some e1 ∧ body e1 = .nx e2 ∧ I (i + 1) (step b x) e2) → ∃ e, forF tg body (xs.map enc) env = .nx e ∧ I (k + xs.length) (xs.foldl step b) e
  | [], k, b, env, h, _ => ⟨env, rfl, h⟩
  | x :: xs, k, b, env, h, hs => by
    obtain ⟨e1, e2, h1, h2, h3⟩ := hs k b env h (Nat.le_refl _) (by simp) x List.mem_cons_self
    obtain ⟨e, h4, h5⟩ := forF_idx enc step I xs (k + 1) (step b x) e2 h3 fun i b env hb hi hl y hy => hs i b env hb (by omega) (by simp only [List.length_cons]; omega) y (List.mem_cons_of_mem _ hy)
    refine ⟨e, ?_, ?_⟩
    · rw [List.map_cons, forF, h1]
      dsimp only
      rw [h2, Out.loop_nx, h4]
    · rw [List.length_cons, List.foldl_cons, show k + (xs.length + 1) = k + 1 + xs.length by omega]
      exact h5

theorem rng1_nat (n : Nat) (h : n ≤ 900000) : rng1 [.int (n : Int)] = .ok (rngF 0 n) := by
  have hlim := lim_eq
  unfold rng1
  dsimp only
  rw [if_pos ⟨by omega, by omega⟩, Int.toNat_natCast]

/-! ### turns enough -/
theorem ex_fuel : ∃ n : Nat, 20000 ≤ n := ⟨20000, Nat.le_refl _⟩
noncomputable def fuelW : Nat := Classical.choose ex_fuel
theorem fuelW_ge : 20000 ≤ fuelW := Classical.choose_spec ex_fuel

/-! ### Euclid -/
theorem gcd_step (a b : Int) (ha : 0 ≤ a) (hb : 0 ≤ b) : Int.gcd a b = Int.gcd b (a % b) := by
  obtain ⟨x, rfl⟩ := Int.eq_ofNat_of_zero_le ha
  obtain ⟨y, rfl⟩ := Int.eq_ofNat_of_zero_le hb
  rw [← Int.natCast_emod]
  show Nat.gcd x y = Nat.gcd y (x % y)
  rw [Nat.gcd_comm x y, Nat.gcd_rec y x, Nat.gcd_comm]
theorem euclid {t : TF} {body : SF} (E : Int → Int → Ev) (ht : ∀ a b, t ((E a b).map Sl.full) = .ok (decide (0 < b))) (hb : ∀ a b, 0 < b → body (E a b) = .nx (E b (a % b))) :
    ∀ (k n : Nat) (a b : Int), 0 ≤ a → 0 ≤ b → b < 2 ^ k → 2 * k + 1 ≤ n → whileF t body n (E a b) = .nx (E (Int.gcd a b) 0) := by
  intro k
  induction k with
  | zero =>
    intro n a b ha hb0 hk hn
    have : b = 0 := by
      have : (2 : Int) ^ 0 = 1 := rfl
      omega
    subst this
    obtain ⟨m, rfl⟩ : ∃ m, n = m + 1 := ⟨n - 1, by omega⟩
    rw [whileF, ht]
    have : ((Int.gcd a 0 : Nat) : Int) = a := by rw [Int.gcd_zero_right]; omega
    rw [this]
    simp
  | succ k ih =>
    intro n a b ha hb0 hk hn
    obtain ⟨m, rfl⟩ : ∃ m, n = m + 2 := ⟨n - 2, by omega⟩
    have stop : ∀ (m : Nat) (a : Int), 0 ≤ a → whileF t body (m + 1) (E a 0) = .nx (E a 0) := fun m a _ => by
      rw [whileF, ht]
      simp
    have g0 : ∀ a : Int, 0 ≤ a → ((Int.gcd a 0 : Nat) : Int) = a := fun a ha => by rw [Int.gcd_zero_right]; omega
    by_cases hz : b = 0
    · subst hz
      rw [stop _ a ha, g0 a ha]
    · have hbp : 0 < b := by omega
      rw [whileF, ht]
      simp only [hbp, decide_true, R.outB_ok, if_true]
      rw [hb a b hbp, Out.loop_nx]
      have h1 : 0 ≤ a % b := Int.emod_nonneg _ (by omega)
      have h2 : a % b < b := Int.emod_lt_of_pos _ hbp
      have e1 : Int.gcd a b = Int.gcd b (a % b) := gcd_step a b ha hb0
      by_cases hz2 : a % b = 0
      · rw [hz2, stop _ b hb0, e1, hz2, g0 b hb0]
      · have hp2 : 0 < a % b := by omega
        rw [whileF, ht]
        simp only [hp2, decide_true, R.outB_ok, if_true]
        rw [hb b (a % b) hp2, Out.loop_nx]
        have h3 : 0 ≤ b % (a % b) := Int.emod_nonneg _ (by omega)
        have h4 : b % (a % b) < a % b := Int.emod_lt_of_pos _ hp2
        have h5 : b % (a % b) < 2 ^ k := by
          have e : (2 : Int) ^ (k + 1) = 2 * 2 ^ k := by rw [Int.pow_succ]; omega
          rcases Int.lt_or_le (a % b) (2 ^ k) with q | q
          · omega
          · have hd : b / (a % b) = 1 := by
              apply Int.le_antisymm
              · have : b / (a % b) < 2 := Int.ediv_lt_of_lt_mul hp2 (by omega)
                omega
              · exact Int.le_ediv_of_mul_le hp2 (by omega)
            have := Int.emod_add_mul_ediv b (a % b)
            rw [hd] at this
            omega
        rw [ih m (a % b) (b % (a % b)) h1 h3 h5 (by omega), e1, gcd_step b (a % b) hb0 h1]

/-! ### fractions -/
noncomputable def frD (r : Rat) : PyData := shut (.tuple [.int r.num, .int r.den])
theorem frD_eq (r : Rat) : frD r = .tuple [.int r.num, .int r.den] := shut_eq _
/-- n bits -/
def Bq (n : Nat) (r : Rat) : Prop := r.num.natAbs < 2 ^ n ∧ r.den < 2 ^ n
theorem Bq.mono {n m : Nat} {r : Rat} (h : Bq n r) (e : n ≤ m) : Bq m r := ⟨Nat.lt_of_lt_of_le h.1 (Nat.pow_le_pow_right (by decide) e), Nat.lt_of_lt_of_le h.2 (Nat.pow_le_pow_right (by decide) e)⟩
theorem bq_mk {n : Nat} {a : Int} {b : Nat} (hb : b ≠ 0) (h1 : a.natAbs < 2 ^ n) (h2 : b < 2 ^ n) : Bq n (mkRat a b) := by
  refine ⟨?_, ?_⟩
  · rw [Rat.num_mkRat, if_neg hb]
    exact Nat.lt_of_le_of_lt (Int.natAbs_ediv_le_natAbs _ _) h1
  · rw [Rat.den_mkRat, if_neg hb]
    exact Nat.lt_of_le_of_lt (Nat.div_le_self _ _) h2
theorem mul_lt2 {a b n m : Nat} (h1 : a < 2 ^ n) (h2 : b < 2 ^ m) : a * b < 2 ^ (n + m) := by
  rw [Nat.pow_add]
  exact Nat.mul_lt_mul'' h1 h2
theorem bq_add {n m : Nat} {a b : Rat} (ha : Bq n a) (hb : Bq m b) : Bq (n + m + 1) (a + b) := by
  rw [Rat.add_def']
  refine bq_mk (Nat.mul_ne_zero a.den_nz b.den_nz) ?_ ?_
  · have h1 := mul_lt2 ha.1 hb.2
    have h2 := mul_lt2 hb.1 ha.2
    have e1 : (a.num * (b.den : Int)).natAbs = a.num.natAbs * b.den := by rw [Int.natAbs_mul]; rfl
    have e2 : (b.num * (a.den : Int)).natAbs = b.num.natAbs * a.den := by rw [Int.natAbs_mul]; rfl
    have h3 := Int.natAbs_add_le (a.num * (b.den : Int)) (b.num * (a.den : Int))
    rw [e1, e2] at h3
    rw [Nat.add_comm m n] at h2
    rw [Nat.pow_succ]
    omega
  · have h1 := mul_lt2 ha.2 hb.2
    rw [Nat.pow_succ]
    omega
theorem bq_mul {n m : Nat} {a b : Rat} (ha : Bq n a) (hb : Bq m b) : Bq (n + m) (a * b) := by
  rw [Rat.mul_def']
  refine bq_mk (Nat.mul_ne_zero a.den_nz b.den_nz) ?_ (mul_lt2 ha.2 hb.2)
  rw [Int.natAbs_mul]
  exact mul_lt2 ha.1 hb.1
theorem bq_inv {n : Nat} (hn : 1 ≤ n) {a : Rat} (ha : Bq n a) : Bq n a⁻¹ := by
  refine ⟨?_, ?_⟩
  · rw [Rat.num_inv, Int.natAbs_mul]
    have hs : a.num.sign.natAbs ≤ 1 := by
      rcases Int.lt_trichotomy a.num 0 with h | h | h
      · rw [Int.sign_eq_neg_one_of_neg h]; decide
      · rw [h]; decide
      · rw [Int.sign_eq_one_of_pos h]; decide
    refine Nat.lt_of_le_of_lt (Nat.mul_le_mul_right _ hs) ?_
    rw [Nat.one_mul]
    exact ha.2
  · rw [Rat.den_inv]
    split
    · exact Nat.lt_of_lt_of_le (by decide) (Nat.pow_le_pow_right (by decide) hn)
    · exact ha.1
theorem bq_div {n m : Nat} (hm : 1 ≤ m) {a b : Rat} (ha : Bq n a) (hb : Bq m b) : Bq (n + m) (a / b) := by
  rw [Rat.div_def]
  exact bq_mul ha (bq_inv hm hb)
theorem bq_int {n : Nat} (i : Int) (h : i.natAbs < 2 ^ n) (hn : 1 ≤ n) : Bq n (i : Rat) := ⟨h, Nat.lt_of_lt_of_le (show 1 < 2 ^ 1 by decide) (Nat.pow_le_pow_right (by decide) hn)⟩
theorem frD_inj {a b : Rat} (h : frD a = frD b) : a = b := by
  rw [frD_eq, frD_eq] at h
  injection h with h
  injection h with h1 h2
  injection h2 with h2 _
  injection h1 with h1
  injection h2 with h2
  exact Rat.ext h1 (by omega)
/-- what Euclid's division leaves -/
theorem frac_of (top under : Int) (h : 0 < under) : PyData.tuple [.int (top / (Int.gcd (if top < 0 then -top else top) under : Nat)), .int (under / (Int.gcd (if top < 0 then -top else top) under : Nat))] = frD (mkRat top under.toNat) := by
  have hg : Int.gcd (if top < 0 then -top else top) under = under.toNat.gcd top.natAbs := by
    unfold Int.gcd
    rw [Nat.gcd_comm]
    congr 1
    · omega
    · split <;> omega
  have hu : under.toNat ≠ 0 := by omega
  rw [frD_eq, hg, Rat.num_mkRat, Rat.den_mkRat, if_neg hu, if_neg hu]
  congr 3
  rw [Int.natCast_ediv]
  congr 2
  omega
@[simp] theorem dIx_fr0 (r : Rat) : dIx (frD r) (.int 0) = .ok (.int r.num) := by rw [frD_eq]; exact dIx_t0
@[simp] theorem dIx_fr1 (r : Rat) : dIx (frD r) (.int 1) = .ok (.int r.den) := by rw [frD_eq]; exact dIx_t1
theorem shp_fr (n : Nat) (r : Rat) : Shp (n + 1) (frD r) := by rw [frD_eq]; exact shp_tuple (shpA_cons (shp_int _ _) (shpA_cons (shp_int _ _) (shpA_nil _)))
@[simp] theorem shaped_fr (r : Rat) : SeqAt.shaped (frD r) = true := shaped_of (shp_fr 0 r) (by decide)
theorem eqv_fr (a b : Rat) : PyData.eqv (frD a) (frD b) = decide (a = b) := by
  simp only [frD_eq, PyData.eqv, PyData.eqvAll, Bool.and_true]
  by_cases h : a = b
  · subst h; simp
  · rw [decide_eq_false h]
    by_cases h1 : a.num = b.num
    · have : a.den ≠ b.den := fun z => h (Rat.ext h1 z)
      simp [h1]
      omega
    · simp [h1]
theorem dEq_fr (a b : Rat) : dEq (frD a) (frD b) = .ok (.bool (decide (a = b))) := by rw [dEq_shp (shaped_fr a) (shaped_fr b), eqv_fr]
theorem dNe_fr (a b : Rat) : dNe (frD a) (frD b) = .ok (.bool (!decide (a = b))) := by rw [dNe_shp (shaped_fr a) (shaped_fr b), eqv_fr]
theorem fr_int (i : Int) : PyData.tuple [.int i, .int 1] = frD (i : Rat) := by rw [frD_eq]; rfl
theorem fr_zero : PyData.tuple [.int 0, .int 1] = frD 0 := by rw [frD_eq]; rfl
theorem fr_one : PyData.tuple [.int 1, .int 1] = frD 1 := by rw [frD_eq]; rfl

/-! ### sums, the greatest -/
def qsum : List Rat → Rat
  | [] => 0
  | r :: rs => r + qsum rs
theorem qsum_foldl : ∀ (rs : List Rat) (a : Rat), rs.foldl (· + ·) a = a + qsum rs
  | [], a => by simp [qsum, Rat.add_zero]
  | r :: rs, a => by
    rw [List.foldl_cons, qsum_foldl rs (a + r)]
    simp only [qsum]
    rw [Rat.add_assoc]
def qmx : Rat → List Rat → Rat
  | f, [] => f
  | f, r :: rs => qmx (if f < r then r else f) rs
def qmax : List Rat → Rat
  | [] => 0
  | r :: rs => qmx r (r :: rs)
theorem qmx_foldl : ∀ (rs : List Rat) (a : Rat), rs.foldl (fun f r => if f < r then r else f) a = qmx a rs
  | [], a => rfl
  | r :: rs, a => by rw [List.foldl_cons, qmx, qmx_foldl rs]
theorem qmx_spec : ∀ (rs : List Rat) (f : Rat), (qmx f rs = f ∨ qmx f rs ∈ rs) ∧ f ≤ qmx f rs ∧ ∀ r ∈ rs, r ≤ qmx f rs
  | [], f => ⟨.inl rfl, Rat.le_refl, by simp⟩
  | r :: rs, f => by
    obtain ⟨h1, h2, h3⟩ := qmx_spec rs (if f < r then r else f)
    rw [qmx]
    by_cases h : f < r
    · rw [if_pos h] at h1 h2 h3 ⊢
      refine ⟨.inr ?_, Rat.le_trans (Rat.le_of_lt h) h2, fun x hx => ?_⟩
      · rcases h1 with h1 | h1
        · rw [h1]; exact List.mem_cons_self
        · exact List.mem_cons_of_mem _ h1
      · rcases List.mem_cons.mp hx with rfl | hx
        · exact h2
        · exact h3 x hx
    · rw [if_neg h] at h1 h2 h3 ⊢
      refine ⟨h1.imp id (List.mem_cons_of_mem _), h2, fun x hx => ?_⟩
      rcases List.mem_cons.mp hx with rfl | hx
      · exact Rat.le_trans (Rat.not_lt.mp h) h2
      · exact h3 x hx
theorem qmax_mem {rs : List Rat} (h : rs ≠ []) : qmax rs ∈ rs := by
  cases rs with
  | nil => exact absurd rfl h
  | cons r rs =>
    have := (qmx_spec (r :: rs) r).1
    rcases this with h | h
    · show qmx r (r :: rs) ∈ r :: rs
      rw [h]
      exact List.mem_cons_self
    · exact h
theorem le_qmax {rs : List Rat} {r : Rat} (h : r ∈ rs) : r ≤ qmax rs := by
  cases rs with
  | nil => cases h
  | cons s rs => exact (qmx_spec (s :: rs) s).2.2 r h
end PL
/-! PL, part s: comprehensions as plain maps; walks as maps. -/
namespace PL
open PySem PySem.Spec PyProof.Rows L2

def mapR {α β : Type} (f : α → R β) : List α → R (List β)
  | [] => .ok []
  | x :: xs => (f x).bind fun y => (mapR f xs).bind fun ys => .ok (y :: ys)
def fltR {α β : Type} (t : α → R Bool) (f : α → R β) : List α → R (List β)
  | [] => .ok []
  | x :: xs => (t x).bind fun b => if b = true then (f x).bind fun y => (fltR t f xs).bind fun ys => .ok (y :: ys) else fltR t f xs
noncomputable def mapL {α : Type} (f : α → R PyData) (xs : List α) : R PyData := ((mapR f xs).sure).bind lcE
noncomputable def fltL {α : Type} (t : α → R Bool) (f : α → R PyData) (xs : List α) : R PyData := ((fltR t f xs).sure).bind lcE
theorem mapR_map {α β γ : Type} (f : β → R γ) (g : α → β) : ∀ xs : List α, mapR f (xs.map g) = mapR (fun x => f (g x)) xs
  | [] => rfl
  | x :: xs => by rw [List.map_cons, mapR, mapR, mapR_map f g xs]
theorem mapR_ok {α β : Type} {f : α → R β} {g : α → β} : ∀ {xs : List α}, (∀ x ∈ xs, f x = .ok (g x)) → mapR f xs = .ok (xs.map g)
  | [], _ => rfl
  | x :: xs, h => by rw [mapR, h x List.mem_cons_self, mapR_ok fun y hy => h y (List.mem_cons_of_mem _ hy)]; rfl
theorem fltR_ok {α β : Type} {t : α → R Bool} {f : α → R β} {p : α → Bool} {g : α → β} : ∀ {xs : List α}, (∀ x ∈ xs, t x = .ok (p x)) → (∀ x ∈ xs, p x = true → f x = .ok (g x)) → fltR t f xs = .ok ((xs.filter p).map g)
  | [], _, _ => rfl
  | x :: xs, h, h2 => by
    have ih := fltR_ok (t := t) (f := f) (p := p) (g := g) (xs := xs) (fun y hy => h y (List.mem_cons_of_mem _ hy)) fun y hy => h2 y (List.mem_cons_of_mem _ hy)
    rw [fltR, h x List.mem_cons_self, R.bind_ok]
    by_cases hp : p x = true
    · rw [if_pos hp, h2 x List.mem_cons_self hp, R.bind_ok, ih, R.bind_ok, List.filter_cons_of_pos hp, List.map_cons]
    · rw [if_neg hp, ih, List.filter_cons_of_neg hp]
theorem mapL_ok {α β : Type} {f : β → R PyData} {enc : α → β} {g : α → PyData} {xs : List α} (h : ∀ x ∈ xs, f (enc x) = .ok (g x)) (hl : xs.length ≤ 900000) : mapL f (xs.map enc) = .ok (.list (xs.map g)) := by
  unfold mapL
  rw [mapR_map, mapR_ok h, R.sure_ok, R.bind_ok]
  unfold lcE
  rw [if_pos (by rw [List.length_map]; exact szl_big hl)]
theorem fltR_map {α β γ : Type} (t : β → R Bool) (f : β → R γ) (g : α → β) : ∀ xs : List α, fltR t f (xs.map g) = fltR (fun x => t (g x)) (fun x => f (g x)) xs
  | [] => rfl
  | x :: xs => by rw [List.map_cons, fltR, fltR, fltR_map t f g xs]
theorem fltL_ok {α β : Type} {t : β → R Bool} {f : β → R PyData} {enc : α → β} {p : α → Bool} {g : α → PyData} {xs : List α} (h : ∀ x ∈ xs, t (enc x) = .ok (p x)) (h2 : ∀ x ∈ xs, p x = true → f (enc x) = .ok (g x)) (hl : xs.length ≤ 900000) : fltL t f (xs.map enc) = .ok (.list ((xs.filter p).map g)) := by
  unfold fltL
  rw [fltR_map, fltR_ok h h2, R.sure_ok, R.bind_ok]
  unfold lcE
  rw [if_pos (by rw [List.length_map]; exact szl_big (Nat.le_trans (List.length_filter_le _ _) hl))]
@[simp] theorem mapL_nil {α : Type} (f : α → R PyData) : mapL f [] = .ok (.list []) := by
  unfold mapL mapR
  rw [R.sure_ok, R.bind_ok]
  exact if_pos (szl_big (by simp))
/-- small lists, one by one -/
theorem mapL_cons {α : Type} {f : α → R PyData} {x : α} {xs : List α} {y : PyData} {ys : List PyData} (h : f x = .ok y) (h2 : mapL f xs = .ok (.list ys)) (hl : xs.length ≤ 900000) : mapL f (x :: xs) = .ok (.list (y :: ys)) := by
  unfold mapL at h2 ⊢
  rw [mapR, h, R.bind_ok]
  have len : ∀ {xs : List α} {ys : List PyData}, mapR f xs = .ok ys → ys.length = xs.length := by
    intro xs
    induction xs with
    | nil => intro ys h; cases h; rfl
    | cons x xs ih =>
      intro ys h
      rw [mapR] at h
      cases e : f x with
      | ok y =>
        rw [e, R.bind_ok] at h
        cases e2 : mapR f xs with
        | ok zs => rw [e2, R.bind_ok] at h; cases h; rw [List.length_cons, List.length_cons, ih e2]
        | ex c => rw [e2] at h; cases h
        | no => rw [e2] at h; cases h
      | ex c => rw [e] at h; cases h
      | no => rw [e] at h; cases h
  cases e : mapR f xs with
  | ok zs =>
    rw [e, R.sure_ok, R.bind_ok] at h2
    have l := len e
    unfold lcE at h2 ⊢
    rw [if_pos (szl_big (by omega))] at h2
    cases h2
    rw [R.bind_ok, R.sure_ok, R.bind_ok]
    rw [if_pos (by rw [List.length_cons]; rw [szl_eq]; omega)]
  | ex c => rw [e] at h2; cases h2
  | no => rw [e] at h2; cases h2

/-- the targets of a comprehension that are a tuple -/
def cTm (is : List Nat) (te : EF) (env : List (Option PyData)) (d : PyData) : R PyData := match cT is d env with
  | some e => te e
  | none => .no
def cTb (is : List Nat) (te : TF) (env : List (Option PyData)) (d : PyData) : R Bool := match cT is d env with
  | some e => te e
  | none => .no
@[simp] theorem cTm_2 (i j : Nat) (te : EF) (env : List (Option PyData)) (a b : PyData) : cTm [i, j] te env (.tuple [a, b]) = te ((env.set i (some a)).set j (some b)) := rfl
@[simp] theorem cTm_3 (i j k : Nat) (te : EF) (env : List (Option PyData)) (a b c : PyData) : cTm [i, j, k] te env (.tuple [a, b, c]) = te (((env.set i (some a)).set j (some b)).set k (some c)) := rfl
@[simp] theorem cTb_2 (i j : Nat) (te : TF) (env : List (Option PyData)) (a b : PyData) : cTb [i, j] te env (.tuple [a, b]) = te ((env.set i (some a)).set j (some b)) := rfl
@[simp] theorem cTb_3 (i j k : Nat) (te : TF) (env : List (Option PyData)) (a b c : PyData) : cTb [i, j, k] te env (.tuple [a, b, c]) = te (((env.set i (some a)).set j (some b)).set k (some c)) := rfl
section
variable {fi : LF} {tt : TF} {te : EF} {env : List (Option PyData)} {i : Nat} {is : List Nat}
theorem lcF_mapR (tg : GE) (h : PyData → R PyData) (hh : ∀ d, h d = match tg d env with | some e => te e | none => .no) : ∀ ds : List PyData, (lcF tg bYes te ds env).sure = (mapR h ds).sure
  | [] => rfl
  | d :: ds => by
    have ih := lcF_mapR tg h hh ds
    rw [lcF, mapR, hh]
    cases tg d env with
    | none => rfl
    | some e =>
      dsimp only
      show ((R.ok true).bind _).sure = _
      rw [R.bind_ok, if_pos rfl]
      cases te e with
      | ok y =>
        rw [R.bind_ok, R.bind_ok]
        cases e1 : lcF tg bYes te ds env <;> cases e2 : mapR h ds <;> rw [e1, e2] at ih <;> first | rfl | (cases ih; rfl) | cases ih
      | ex c => rfl
      | no => rfl
theorem eLc_N : eLc (cN i) fi bYes te env = (fi env).bind fun ds => mapL (fun d => te (env.set i (some d))) ds := by
  unfold eLc mapL
  congr 1
  funext ds
  rw [lcF_mapR (cN i) (fun d => te (env.set i (some d))) fun d => rfl]
theorem eLc_T : eLc (cT is) fi bYes te env = (fi env).bind fun ds => mapL (fun d => cTm is te env d) ds := by
  unfold eLc mapL
  congr 1
  funext ds
  rw [lcF_mapR (cT is) (fun d => cTm is te env d) fun d => rfl]
theorem lcF_fltR (tg : GE) (t : PyData → R Bool) (h : PyData → R PyData) (ht : ∀ d, t d = match tg d env with | some e => tt e | none => .no) (hh : ∀ d, h d = match tg d env with | some e => te e | none => .no) : ∀ ds : List PyData, (lcF tg tt te ds env).sure = (fltR t h ds).sure
  | [] => rfl
  | d :: ds => by
    have ih := lcF_fltR tg t h ht hh ds
    rw [lcF, fltR, ht, hh]
    cases tg d env with
    | none => rfl
    | some e =>
      dsimp only
      cases tt e with
      | ok b =>
        rw [R.bind_ok, R.bind_ok]
        cases b with
        | false => rw [if_neg (by simp), if_neg (by simp)]; exact ih
        | true =>
          rw [if_pos rfl, if_pos rfl]
          cases te e with
          | ok y =>
            rw [R.bind_ok, R.bind_ok]
            cases e1 : lcF tg tt te ds env <;> cases e2 : fltR t h ds <;> rw [e1, e2] at ih <;> first | rfl | (cases ih; rfl) | cases ih
          | ex c => rfl
          | no => rfl
      | ex c => rfl
      | no => rfl
theorem eLc_NF : eLc (cN i) fi tt te env = (fi env).bind fun ds => fltL (fun d => tt (env.set i (some d))) (fun d => te (env.set i (some d))) ds := by
  unfold eLc fltL
  congr 1
  funext ds
  rw [lcF_fltR (cN i) (fun d => tt (env.set i (some d))) (fun d => te (env.set i (some d))) (fun d => rfl) fun d => rfl]
theorem eLc_TF : eLc (cT is) fi tt te env = (fi env).bind fun ds => fltL (fun d => cTb is tt env d) (fun d => cTm is te env d) ds := by
  unfold eLc fltL
  congr 1
  funext ds
  rw [lcF_fltR (cT is) (fun d => cTb is tt env d) (fun d => cTm is te env d) (fun d => rfl) fun d => rfl]
end
@[simp] theorem items_list (ds : List PyData) : itemsOf (.list ds) = .ok ds := rfl
@[simp] theorem items_tuple (ds : List PyData) : itemsOf (.tuple ds) = .ok ds := rfl
/-- a loop by the place of its turn -/
theorem forF_at {α : Type} {tg : GF} {body : SF} (enc : α → PyData) (I : Nat → Ev → Prop) : ∀ (xs : List α) (k : Nat) (env : Ev), I k env → (∀ (i : Nat) (hi : i < xs.length) (env : Ev), I (k + i) env → ∃ e1 e2, tg (enc xs[i]) env = some e1 ∧ body e1 = .nx e2 ∧ I (k + i + 1) e2) → ∃ e, forF tg body (xs.map enc) env = .nx e ∧ I (k + xs.length) e
  | [], k, env, h, _ => ⟨env, rfl, h⟩
  | x :: xs, k, env, h, hs => by
    obtain ⟨e1, e2, h1, h2, h3⟩ := hs 0 (by simp) env h
    obtain ⟨e, h4, h5⟩ := forF_at enc I xs (k + 1) e2 h3 fun i hi env hI => by
      have := hs (i + 1) (by simpa using hi) env (by rw [show k + (i + 1) = k + 1 + i by omega]; exact hI)
      rw [show k + (i + 1) + 1 = k + 1 + i + 1 by omega] at this
      simpa using this
    refine ⟨e, ?_, ?_⟩
    · have h1' : tg (enc x) env = some e1 := h1
      rw [List.map_cons, forF, h1']
      dsimp only
      rw [h2, Out.loop_nx, h4]
    · rw [List.length_cons, show k + (xs.length + 1) = k + 1 + xs.length by omega]
      exact h5
/-! ### walks -/
theorem rngF_map (n : Nat) : rngF 0 n = (List.range n).map fun i : Nat => PyData.int (i : Int) := by
  unfold rngF
  apply List.map_congr_left
  intro i _
  rw [Int.zero_add]
theorem enumF_go {α : Type} (f : α → PyData) : ∀ (xs : List α) (n : Nat), enumF n (xs.map f) = (xs.zipIdx n).map fun p => .tuple [.int ((p.2 : Nat) : Int), f p.1]
  | [], _ => rfl
  | x :: xs, n => by rw [List.map_cons, enumF, enumF_go f xs, List.zipIdx_cons, List.map_cons]
theorem enumF_map {α : Type} (f : α → PyData) (xs : List α) : enumF 0 (xs.map f) = xs.zipIdx.map fun p => .tuple [.int ((p.2 : Nat) : Int), f p.1] := enumF_go f xs 0
theorem zipF_map {α β : Type} (f : α → PyData) (g : β → PyData) (xs : List α) (ys : List β) : zipF (xs.map f) (ys.map g) = (xs.zip ys).map fun p => .tuple [f p.1, g p.2] := by
  unfold zipF
  rw [List.zipWith_map, List.zip, List.map_zipWith]
theorem zip2_map {α β : Type} (f : α → PyData) (g : β → PyData) (xs : List α) (ys : List β) : zip2 [.list (xs.map f), .list (ys.map g)] = .ok ((xs.zip ys).map fun p => .tuple [f p.1, g p.2]) := by
  show R.ok (zipF _ _) = _
  rw [zipF_map]
theorem enum1_map {α : Type} (f : α → PyData) (xs : List α) : enum1 [.list (xs.map f)] = .ok (xs.zipIdx.map fun p => .tuple [.int ((p.2 : Nat) : Int), f p.1]) := by
  show R.ok (enumF 0 _) = _
  rw [enumF_map]
theorem rng1_map (n : Nat) (h : n ≤ 900000) : rng1 [.int (n : Int)] = .ok ((List.range n).map fun i : Nat => .int (i : Int)) := by
  rw [rng1_nat n h, rngF_map]
theorem dIx_map {α : Type} (f : α → PyData) (xs : List α) (i : Nat) (h : i < xs.length) : dIx (.list (xs.map f)) (.int (i : Int)) = .ok (f xs[i]) := by
  rw [dIx_list (by simpa using h)]
  simp
theorem dIx_mapD {α : Type} (f : α → PyData) (xs : List α) (i : Nat) (z : α) (h : i < xs.length) : dIx (.list (xs.map f)) (.int (i : Int)) = .ok (f (xs.getD i z)) := by
  rw [dIx_map f xs i h]
  simp [List.getD, h]
end PL
/-! PL, part t: more words: xs[::-1]. -/
namespace PL
open PySem PySem.Spec PyProof.Rows L2
def dRev : PyData → R PyData
  | .list xs => .ok (.list xs.reverse)
  | _ => .no
theorem RepA.reverse {K : PySem.W.Frag} {G : Hp} : ∀ {vs : List V} {ds : List PyData}, RepA K G vs ds → RepA K G vs.reverse ds.reverse
  | _, _, .nil => .nil
  | _, _, .cons h r => by
    rw [List.reverse_cons, List.reverse_cons]
    exact (RepA.reverse r).append (.cons h .nil)
section
variable {X : Cx} {ec : Nat → Addr} {W : WX} {e : Expr} {f : EF} {pos p1 p2 p3 : Pos} {k : Nat}
theorem se_revL (he : PE X e (tD X.K ec W f)) : PE X (.Subscript e (.Slice none none (some (.UnaryOp .USub (.Constant (.int 1) k p1) p2)) p3) pos) (tD X.K ec W (eUn dRev f)) :=
  PE_imp (pe_revL he) fun σ H Q ⟨G, env, s, E, p⟩ => ⟨G, env, s, E, Post.bind p fun x dx G1 H1 _ e1 r1 p1 => by
    cases r1 with
    | @lst a xs ds ha r => exact ⟨a, xs, rfl, (ls_same e1.i ha).sq, fun q n => p1 _ _ _ (Ext.new e1.i n) (ext_list e1.i n r.reverse)⟩
    | _ => exact p1.elim⟩
end
@[simp] theorem dRev_list (xs : List PyData) : dRev (.list xs) = .ok (.list xs.reverse) := rfl
end PL
/-! PL, part u: sets of ints made of lists. -/
namespace PL
open PySem PySem.Spec PyProof.Rows L2
/-- the set that is still empty -/
abbrev set0 (w : World) : Obj := { cls := .type "set", dict := none, data := .set #[] 0 (.fresh 0 0 (!w.params.followText "set-order")) }
section
variable {P : Program} {w : World} {A : Around} {E : Value → Shared → Prop} {s : Shared}
theorem call_setL {l : Addr} {items : Array Value} (ns : List Int) {Q : Value → Shared → Prop} (hh : A.handled = none) (hl : s.heap.IsList l items) (hit : IntsAre items.toList ns) (hb : ns.length + 1 < scanBound)
    (hQ : ∀ (h' : Heap) (tk c : Nat), SetR w h' s.heap.objs.size (fun j => decide (j ∈ ns)) c → c ≤ ns.length → (∀ b o, s.heap.get? b = some o → h'.get? b = some o) → Q (.ref s.heap.objs.size) { s with heap := h', toks := tk }) :
    wpAny (model P w) A (call (.type "set") [.ref l]) Q E s := by
  have hisz : items.size = ns.length := by have q := IntsAre.length hit; rwa [Array.length_toList] at q
  obtain ⟨cc, tl, hmro⟩ := F.called_set.mro
  have hmade := F.called_set.made; have hsub := F.called_set.sub
  have k1 := F.called_set.notType; have k2 := F.called_set.canCreate; have k3 := F.typeCall_set_1 (.ref l)
  refine wpAny_call (codeAny_of_tree ?_)
  show wpAny _ _ (callAny (.type "set") _) _ _ _
  refine wpAny_pure ⟨Code.quiet_builtin _ (by decide +kernel), codeAny_builtin F.entry_type_call ?_⟩
  rw [Around.under_plain (weight_type_call_type "set" [.ref l] []) rfl]
  repeat (any_goals (first | assumption | wp_step))
  refine codeAny_mono (code_set_led1 (.ref l) (E := E) (Q₁ := fun obj s₁ => obj = .ref s.heap.objs.size ∧ s₁ = { s with heap := s.heap.push (set0 w) }) ⟨rfl, rfl⟩) fun r s₁ hr => ?_
  match r, hr with
  | .error e, hr => exact hr
  | .ok (.ret obj), hr =>
    obtain ⟨rfl, rfl⟩ := hr
    have hS : (s.heap.push (set0 w)).get? s.heap.objs.size = some (set0 w) := Heap.get?_push_size _ rfl
    have hT : Shared.TypeIs { s with heap := s.heap.push (set0 w) } (.ref s.heap.objs.size) "set" := ⟨_, hS, rfl⟩
    have k4 := F.called_set.init.lookup; have k5 := F.called_set.init.bind (.ref s.heap.objs.size)
    repeat (any_goals (first | assumption | wp_step))
    refine codeAny_mono (codeAny_call_builtin (R := wants (fun r s₂ => r = .none ∧ ∃ h' tk c, s₂ = { s with heap := h', toks := tk } ∧ SetR w h' s.heap.objs.size (fun j => decide (j ∈ ns)) c ∧ c ≤ ns.length ∧ ∀ b o, s.heap.get? b = some o → h'.get? b = some o) E) F.called_set.init.plain F.entry_set_init (check_set_init_1 hT ?_)) fun r₂ s₂ hr₂ => ?_
    · obtain ⟨⟨ocls, odict, odata, oslots⟩, hol, hcl, nl, hdl⟩ := hl
      simp only at hcl hdl
      subst hcl hdl
      have hol' : (s.heap.push (set0 w)).get? l = some { cls := .type "list", dict := odict, data := .seq items nl, slots := oslots } := Heap.get?_push_of_some _ hol
      have u1 := F.sub_list_set; have u2 := F.sub_list_frozenset
      have u3 : (Value.type "list" == Value.type "dict") = false := by decide
      have hl1 : (s.heap.push (set0 w)).IsList l items := ⟨_, hol', rfl, nl, rfl⟩
      unfold Builtin.«set.__init__» noKeywords Builtin.Frozenset.updateFrom
      generalize hPI : pyIter = PI
      wp_walk
      subst hPI
      refine wpAny_pyIter_list hl1 (wpAny_bind (wpAny_runValue ?_))
      have lS : l < s.heap.objs.size := Heap.lt_size hol
      have h3 : A.in1.in1.in1.handled = none := by simp [hh]
      have nI : l ≠ (s.heap.push (set0 w)).objs.size := fun z => by rw [Heap.size_push] at z; exact absurd z (Nat.ne_of_lt (Nat.lt_succ_of_lt lS))
      have nS : s.heap.objs.size ∉ [(s.heap.push (set0 w)).objs.size, l] := by
        rw [Heap.size_push, List.mem_cons, List.mem_singleton, not_or]
        exact ⟨Nat.ne_of_lt (Nat.lt_succ_self _), Nat.ne_of_gt lS⟩
      have hval : ∀ (i : Nat) (v : Value), items[i]? = some v → ∃ k t, ns[i]? = some k ∧ v = .int k t := fun i v hv => by
        have hi : i < ns.length := by rw [← hisz]; exact (Array.getElem?_eq_some_iff.mp hv).1
        obtain ⟨t, e⟩ := IntsAre.int_at hit i v (by rw [Array.getElem?_toList]; exact hv)
        refine ⟨ns[i], t, List.getElem?_eq_getElem hi, ?_⟩
        rw [e, List.getD_eq_getElem?_getD, List.getElem?_eq_getElem hi]
        rfl
      refine set_update_ints ((Walks.list h3 _ l nI items).toS) s.heap.objs.size nS ns hisz hb hval (items.size - 0) 0 _ (by omega) (Nat.zero_le _) ⟨⟨_, Heap.get?_push_size _ rfl, rfl, rfl⟩, (hl1.push _)⟩ ⟨0, Nat.le_refl 0, setR_new_at (Heap.get?_push_of_some _ hS)⟩ ?_
      intro s' c' hm hc' hS'
      obtain ⟨h', g2, d', tk', os'⟩ := s'
      have eg : g2 = s.gens := hm.gens
      have ed : d' = s.drawn := hm.drawn
      have eo : os' = s.os := hm.os
      subst eg ed eo
      show wpAny _ _ _ _ _ _
      refine wpAny_pure ?_
      show wpAny _ _ (ret Value.none) _ _ _
      rw [hisz] at hc'
      refine wpAny_pure ⟨rfl, h', tk', c', rfl, hS', hc', fun b o e => hm.heap b o ?_ (Heap.get?_push_of_some _ (Heap.get?_push_of_some _ e))⟩
      have b0 : b < s.heap.objs.size := Heap.lt_size e
      rw [Heap.size_push, List.mem_cons, List.mem_singleton, not_or]
      exact ⟨Nat.ne_of_lt b0, Nat.ne_of_lt (Nat.lt_succ_of_lt b0)⟩
    · match r₂, hr₂ with
      | .error e, hr₂ => exact hr₂
      | .ok (.ret r), hr₂ =>
        obtain ⟨rfl, h', tk, c', rfl, hS', hc', hk'⟩ := hr₂
        repeat (any_goals (first | assumption | wp_step))
        exact hQ _ _ _ hS' hc' hk'
      | .ok (.next ..), hr₂ => exact hr₂.elim
end

/-! ### sorted(set(xs)), len(set(xs)) of a list of ints -/
/-- the ints of a list, rising, each once -/
def insI (k : Int) : List Int → List Int
  | [] => [k]
  | x :: xs => if k < x then k :: x :: xs else if k = x then x :: xs else x :: insI k xs
def srtI : List Int → List Int
  | [] => []
  | k :: ks => insI k (srtI ks)
theorem mem_insI {k j : Int} : ∀ {xs : List Int}, j ∈ insI k xs ↔ j = k ∨ j ∈ xs
  | [] => by simp [insI]
  | x :: xs => by
    rw [insI]
    split
    · simp
    · split
      · rename_i h1 h2
        subst h2
        simp
      · rw [List.mem_cons, mem_insI (xs := xs), List.mem_cons]
        constructor
        · rintro (h | h | h)
          · exact .inr (.inl h)
          · exact .inl h
          · exact .inr (.inr h)
        · rintro (h | h | h)
          · exact .inr (.inl h)
          · exact .inl h
          · exact .inr (.inr h)
theorem mem_srtI {j : Int} : ∀ {ks : List Int}, j ∈ srtI ks ↔ j ∈ ks
  | [] => by simp [srtI]
  | k :: ks => by rw [srtI, mem_insI, mem_srtI (ks := ks), List.mem_cons]
theorem insI_lt {k : Int} : ∀ {xs : List Int}, xs.Pairwise (· < ·) → (insI k xs).Pairwise (· < ·)
  | [], _ => by simp [insI]
  | x :: xs, h => by
    rw [List.pairwise_cons] at h
    rw [insI]
    split
    · rename_i h1
      rw [List.pairwise_cons, List.pairwise_cons]
      refine ⟨fun y hy => ?_, h⟩
      rcases List.mem_cons.mp hy with rfl | hy
      · exact h1
      · have := h.1 y hy
        omega
    · split
      · rw [List.pairwise_cons]
        exact h
      · rename_i h1 h2
        rw [List.pairwise_cons]
        refine ⟨fun y hy => ?_, insI_lt h.2⟩
        rcases mem_insI.mp hy with rfl | hy
        · omega
        · exact h.1 y hy
theorem srtI_lt : ∀ ks : List Int, (srtI ks).Pairwise (· < ·)
  | [] => by simp [srtI]
  | k :: ks => insI_lt (srtI_lt ks)
theorem lt_unique : ∀ {a b : List Int}, a.Pairwise (· < ·) → b.Pairwise (· < ·) → (∀ k, k ∈ a ↔ k ∈ b) → a = b
  | [], [], _, _, _ => rfl
  | [], y :: b, _, _, h => by have := (h y).mpr List.mem_cons_self; cases this
  | x :: a, [], _, _, h => by have := (h x).mp List.mem_cons_self; cases this
  | x :: a, y :: b, ha, hb, h => by
    rw [List.pairwise_cons] at ha hb
    have e : x = y := by
      rcases List.mem_cons.mp ((h x).mp List.mem_cons_self) with h1 | h1
      · exact h1
      · rcases List.mem_cons.mp ((h y).mpr List.mem_cons_self) with h2 | h2
        · exact h2.symm
        · have := hb.1 x h1
          have := ha.1 y h2
          omega
    subst e
    rw [lt_unique ha.2 hb.2 fun k => ⟨fun hk => ?_, fun hk => ?_⟩]
    · rcases List.mem_cons.mp ((h k).mp (List.mem_cons_of_mem _ hk)) with h1 | h1
      · have := ha.1 k hk; omega
      · exact h1
    · rcases List.mem_cons.mp ((h k).mpr (List.mem_cons_of_mem _ hk)) with h1 | h1
      · have := hb.1 k hk; omega
      · exact h1
noncomputable def gSortSet : List PyData → R PyData
  | [.list ds] => match intsOf ds with
    | some ns => if ns.length < 60 then .ok (.list ((srtI ns).map .int)) else .no
    | none => .no
  | _ => .no
noncomputable def gLenSet : List PyData → R PyData
  | [.list ds] => match intsOf ds with
    | some ns => if ns.length < 60 then .ok (.int (srtI ns).length) else .no
    | none => .no
  | _ => .no
section
variable {X : Cx} {ec : Nat → Addr} {W : WX} {a : Expr} {f : EF} {p p2 q pos : Pos}
def rSetL (K : PySem.W.Frag) (w : World) : List V → Hp → VK → Prop := fun xs H Q => ∃ (l : Addr) (ns : List Int), xs = [.ref l] ∧ SqL K H l (ns.map V.int) ∧ ns.length < 60 ∧
  ∀ (t : Addr) (c : Nat), H t = none → c ≤ ns.length → Q (.ref t) (upd H t (SetO w t (fun j => decide (j ∈ ns)) c))
theorem cr_setL (hc : X.calm = true) : CallR X (.type "set") (rSetL X.K X.w) := by
  intro pins s σ H xs us Q I r h
  obtain ⟨l, ns, rfl, hq, hl, q⟩ := h
  rw [Vals.ref1 r]
  obtain ⟨its, rv, pl, hz⟩ := I.list hq
  refine call_setL ns (I.ok.hd hc) pl.isList (by simpa using ints_of_vals rv) (by unfold scanBound; omega) fun h' tk c hS hcn hk => ?_
  exact ⟨.ref _, upd H s.heap.objs.size (SetO X.w s.heap.objs.size (fun j => decide (j ∈ ns)) c), I.laid (t' := tk) hk (Nat.le_refl _) (setO_new hS), rfl, q _ c (I.hok.fresh (Nat.le_refl _)) hcn⟩
def rLenSet (w : World) : List V → Hp → VK → Prop := fun xs H Q => ∃ (t : Addr) (S : Int → Bool) (n : Nat), xs = [.ref t] ∧ H t = some (SetO w t S n) ∧ n < 4000 ∧ ∀ ns : List Int, ns.Pairwise (· < ·) → (∀ k : Int, k ∈ ns ↔ S k = true) → ns.length = n → Q (.int n) H
theorem ints_lt (l : List Int) (h : l.Nodup) : ∃ ns : List Int, ns.Pairwise (· < ·) ∧ (∀ k, k ∈ ns ↔ k ∈ l) ∧ ns.length = l.length := by
  induction l with
  | nil => exact ⟨[], by simp, by simp, rfl⟩
  | cons x l ih =>
    rw [List.nodup_cons] at h
    obtain ⟨ns, h1, h2, h3⟩ := ih h.2
    refine ⟨insI x ns, insI_lt h1, fun k => by rw [mem_insI, List.mem_cons, h2], ?_⟩
    have hx : x ∉ ns := fun z => h.1 ((h2 x).mp z)
    have len : ∀ {xs : List Int}, x ∉ xs → (insI x xs).length = xs.length + 1 := by
      intro xs
      induction xs with
      | nil => intro _; rfl
      | cons y ys ihy =>
        intro hy
        rw [insI]
        split
        · rfl
        · split
          · rename_i e
            exact absurd (by rw [e]; exact List.mem_cons_self) hy
          · rw [List.length_cons, ihy fun z => hy (List.mem_cons_of_mem _ z), List.length_cons]
    rw [len hx, h3, List.length_cons]
theorem cr_lenSet : CallR X (.builtin "len") (rLenSet X.w) := by
  intro pins s σ H xs us Q I r h
  obtain ⟨t, S, n, rfl, ht, hn, q⟩ := h
  rw [Vals.ref1 r]
  obtain ⟨o, es, ep, tb, ho, hex, hd, hg, hnd, hm, hsz, hf, hsn, _⟩ := setO_get I ht
  obtain ⟨ns, n1, n2, n3⟩ := ints_lt _ hnd
  refine call_len_set ho hex hd hf (by rw [hsn]; omega) ⟨.int n, H, I.tok _, ⟨_, by rw [hsn]⟩, q ns n1 (fun k => by rw [n2, hm]) (by rw [n3, List.length_map, Array.length_toList, hsn])⟩
theorem eCall_one (g : List PyData → R PyData) (f : EF) (env : List (Option PyData)) : eCall g [f] env = (f env).bind fun d => g [d] := by
  unfold eCall
  rw [aAll, aAll]
  cases f env <;> rfl
theorem se_sortSet (hc : X.calm = true) (hg : Gl X "sorted") (hm : X.mg "sorted" = none) (hg2 : Gl X "set") (hm2 : X.mg "set" = none) (ha : PE X a (tD X.K ec W f)) (na : starEach [a] X.env = (false, eval a X.env) :: starEach [] X.env := by rfl) (na2 : starEach [.Call (.Name "set" p2) [a] [] q] X.env = (false, eval (.Call (.Name "set" p2) [a] [] q) X.env) :: starEach [] X.env := by rfl) :
    PE X (.Call (.Name "sorted" p) [.Call (.Name "set" p2) [a] [] q] [] pos) (tD X.K ec W (eCall gSortSet [f])) :=
  PE_imp (pe_callB (cr_sortedSet hc) hg hm rfl (pa_cons (pe_callTy (cr_setL hc) hg2 hm2 rfl (pa_cons ha pa_nil na) (he := na)) pa_nil na2) (he := na2)) fun σ H Q ⟨G, env, s, E, pp⟩ => by
    rw [eCall_one] at pp
    refine ⟨G, env, s, E, Post.bind pp fun v d G1 H1 _ e1 r1 p1 => ?_⟩
    unfold gSortSet at p1
    split at p1
    · rename_i ds he
      cases he
      split at p1
      · rename_i ns hns
        split at p1
        · rename_i hlt
          obtain ⟨l, rfl, hq⟩ := ints_rd e1.i r1 hns
          refine ⟨l, ns, rfl, hq, hlt, fun t c ht hc1 => ⟨t, _, c, rfl, upd_same, by omega, fun ms o hp hmm hlen ho => ?_⟩⟩
          have e : ms = srtI ns := lt_unique hp (srtI_lt ns) fun k => by rw [hmm, mem_srtI, decide_eq_true_eq]
          subst e
          have not : o ≠ t := fun z => by subst z; rw [upd_same] at ho; cases ho
          have ho1 : H1 o = none := by rwa [upd_ne not] at ho
          have s1 : Same H1 (upd H1 t (SetO X.w t (fun j => decide (j ∈ ns)) c)) := same_new ht
          have e2 := Ext.heap e1.i s1
          exact p1 _ _ _ (e2.trans (Ext.new e2.i ho)) (ext_list e2.i ho (repA_ints _))
        · exact p1.elim
      · exact p1.elim
    · exact p1.elim
theorem se_lenSet (hc : X.calm = true) (hg : Gl X "len") (hm : X.mg "len" = none) (hg2 : Gl X "set") (hm2 : X.mg "set" = none) (ha : PE X a (tD X.K ec W f)) (na : starEach [a] X.env = (false, eval a X.env) :: starEach [] X.env := by rfl) (na2 : starEach [.Call (.Name "set" p2) [a] [] q] X.env = (false, eval (.Call (.Name "set" p2) [a] [] q) X.env) :: starEach [] X.env := by rfl) :
    PE X (.Call (.Name "len" p) [.Call (.Name "set" p2) [a] [] q] [] pos) (tD X.K ec W (eCall gLenSet [f])) :=
  PE_imp (pe_callB cr_lenSet hg hm rfl (pa_cons (pe_callTy (cr_setL hc) hg2 hm2 rfl (pa_cons ha pa_nil na) (he := na)) pa_nil na2) (he := na2)) fun σ H Q ⟨G, env, s, E, pp⟩ => by
    rw [eCall_one] at pp
    refine ⟨G, env, s, E, Post.bind pp fun v d G1 H1 _ e1 r1 p1 => ?_⟩
    unfold gLenSet at p1
    split at p1
    · rename_i ds he
      cases he
      split at p1
      · rename_i ns hns
        split at p1
        · rename_i hlt
          obtain ⟨l, rfl, hq⟩ := ints_rd e1.i r1 hns
          refine ⟨l, ns, rfl, hq, hlt, fun t c ht hc1 => ⟨t, _, c, rfl, upd_same, by omega, fun ms hp hmm hlen => ?_⟩⟩
          have e : ms = srtI ns := lt_unique hp (srtI_lt ns) fun k => by rw [hmm, mem_srtI, decide_eq_true_eq]
          subst e
          subst hlen
          exact p1 _ _ _ (Ext.heap e1.i (same_new ht)) (.int _)
        · exact p1.elim
      · exact p1.elim
    · exact p1.elim
end
end PL
/-! PL, part v: answers whose lists are all new; deep in of tuples. -/
namespace PL
open PySem PySem.Spec PyProof.Rows L2 L2H

/-! ### x in (a, b), deep -/
def rInT (K : PySem.W.Frag) : R2 := fun x y H Q => ∃ d ds, Dp K H x d ∧ Dp K H y (.tuple ds) ∧ SeqAt.shaped d = true ∧ SeqAt.shaped (.tuple ds) = true ∧ Q (.bl (ds.any fun z => PyData.eqv z d)) H
def dInT (x y : PyData) : R PyData := match y with
  | .tuple ds => if SeqAt.shaped x = true ∧ SeqAt.shaped (.tuple ds) = true then .ok (.bool (anyEq x ds)) else .no
  | _ => .no
section
variable {X : Cx} {K : PySem.W.Frag} {ec : Nat → Addr} {W : WX} {a b : Expr} {fa fb : EF} {pos : Pos}
theorem op_inT (hu : X.A.units + 65 < cLine) : OpR X (compareOp .In) (rInT X.K) := fun pins s σ H x y v u Q I rx ry ⟨d, ds, hd, he, sd, se, q⟩ => by
  obtain ⟨as, r1⟩ := Dp.reads I d x v hd rx
  obtain ⟨bs, r2⟩ := Dp.reads I (.tuple ds) y u he ry
  exact SeqAt.in_tuple_reads r2 r1 (SeqAt.canLay_of_shaped se) (SeqAt.canLay_of_shaped sd) (room_in_shaped sd hu) ⟨.bl _, H, I, rfl, q⟩
theorem od_inT : OpD K (rInT K) dInT := by
  intro x y dx dy d G H Q i rx ry h q
  cases ry with
  | @tup l ys es hl r =>
    unfold dInT at h
    dsimp only at h
    split at h
    · rename_i hs
      cases h
      exact ⟨dx, es, (rx.mono i).dp (SeqAt.canLay_of_shaped hs.1), (Rep.mono i (.tup hl r)).dp (SeqAt.canLay_of_shaped hs.2), hs.1, hs.2, q _ G H (Ext.refl i) (.bl _)⟩
    · cases h
  | _ => cases h
theorem nx_inT : NoEx dInT := by
  intro x y c h
  unfold dInT at h
  split at h
  · split at h <;> cases h
  · cases h
theorem se_inT (hu : X.A.units + 65 < cLine) (ha : PE X a (tD X.K ec W fa)) (hb : PE X b (tD X.K ec W fb)) (hm : behindInMarks .In b = false := by rfl) : PE X (.Compare a [.In] [b] pos) (tD X.K ec W (eBin dInT fa fb)) := se_cmp (op_inT hu) od_inT nx_inT ha hb hm
theorem st_inT (hu : X.A.units + 65 < cLine) (ha : PE X a (tD X.K ec W fa)) (hb : PE X b (tD X.K ec W fb)) (hm : behindInMarks .In b = false := by rfl) : PT X (.Compare a [.In] [b] pos) (tDT X.K ec W (bVal (eBin dInT fa fb))) := st_cmp (op_inT hu) od_inT nx_inT ha hb hm
end

/-! ### all lists new -/
mutual
inductive FrR (K : PySem.W.Frag) (N : Addr → Prop) (G : Hp) : V → PyData → Prop
  | non : FrR K N G .non .none
  | bl (b : Bool) : FrR K N G (.bl b) (.bool b)
  | int (i : Int) : FrR K N G (.int i) (.int i)
  | str (x : Str) : FrR K N G (.str x) (.str x)
  | lst {a : Addr} {xs : List V} {ds : List PyData} : G a = some (.lst xs) → N a → FrA K N G xs ds → FrR K N G (.ref a) (.list ds)
  | tup {a : Addr} {xs : List V} {ds : List PyData} : SqT K G a xs → FrA K N G xs ds → FrR K N G (.ref a) (.tuple ds)
inductive FrA (K : PySem.W.Frag) (N : Addr → Prop) (G : Hp) : List V → List PyData → Prop
  | nil : FrA K N G [] []
  | cons {v : V} {vs : List V} {d : PyData} {ds : List PyData} : FrR K N G v d → FrA K N G vs ds → FrA K N G (v :: vs) (d :: ds)
end
section
variable {K : PySem.W.Frag} {N N' : Addr → Prop} {G G' : Hp}
mutual
theorem FrR.rep : ∀ {v : V} {d : PyData}, FrR K N G v d → Rep K G v d
  | _, _, .non => .non
  | _, _, .bl b => .bl b
  | _, _, .int i => .int i
  | _, _, .str x => .str x
  | _, _, .lst h _ r => .lst (.of h) (FrA.rep r)
  | _, _, .tup h r => .tup h (FrA.rep r)
theorem FrA.rep : ∀ {vs : List V} {ds : List PyData}, FrA K N G vs ds → RepA K G vs ds
  | _, _, .nil => .nil
  | _, _, .cons h r => .cons (FrR.rep h) (FrA.rep r)
end
section
variable (e : Same G G') (hN : ∀ a, N a → N' a)
include e hN
mutual
theorem FrR.mono : ∀ {v : V} {d : PyData}, FrR K N G v d → FrR K N' G' v d
  | _, _, .non => .non
  | _, _, .bl b => .bl b
  | _, _, .int i => .int i
  | _, _, .str x => .str x
  | _, _, .lst h n r => .lst (e.lst h) (hN _ n) (FrA.mono r)
  | _, _, .tup h r => .tup (sqT_same e h) (FrA.mono r)
theorem FrA.mono : ∀ {vs : List V} {ds : List PyData}, FrA K N G vs ds → FrA K N' G' vs ds
  | _, _, .nil => .nil
  | _, _, .cons h r => .cons (FrR.mono h) (FrA.mono r)
end
end
theorem FrA.append : ∀ {vs ws : List V} {ds es : List PyData}, FrA K N G vs ds → FrA K N G ws es → FrA K N G (vs ++ ws) (ds ++ es)
  | _, _, _, _, .nil, s => s
  | _, _, _, _, .cons r t, s => .cons r (FrA.append t s)
theorem FrR.atom {v : V} {d : PyData} (r : Rep K G v d) (a : atomic d = true) : FrR K N G v d := by
  cases r with
  | non => exact .non
  | bl b => exact .bl b
  | int i => exact .int i
  | str x => exact .str x
  | _ => cases a
end
def PostFr (K : PySem.W.Frag) (ec : Nat → Addr) (W : WX) (σ : L2.St) (G H : Hp) (Q : VK) : R PyData → Prop
  | .ok d => ∀ v G' H', Ext G H G' H' → FrR K (fun b => H b = none) G' v d → Q v H'
  | .ex c => ∀ H', Same H H' → W (.ref (ec c)) none σ H'
  | .no => False
def tDF (K : PySem.W.Frag) (ec : Nat → Addr) (W : WX) (f : EF) : TE := fun σ H Q => ∃ G env, Same G H ∧ EnvR K G σ env ∧ PostFr K ec W σ G H Q (f env)
section
variable {K : PySem.W.Frag} {ec : Nat → Addr} {W : WX} {σ : L2.St} {G H G' H' : Hp} {Q Q' : VK}
theorem PostFr.mono {r : R PyData} (e : Ext G H G' H') (h : PostFr K ec W σ G H Q r) : PostFr K ec W σ G' H' Q r := by
  cases r with
  | ok d => exact fun v G2 H2 e2 p => h v G2 H2 (e.trans e2) (p.mono (Same.refl _) fun a n => e.h.free n)
  | ex c => exact fun H2 s2 => h H2 (e.h.trans s2)
  | no => exact h
theorem PostFr.bindI {Q' : It → Hp → Prop} {r : R (List PyData)} {k : List PyData → R PyData} (h : PostFr K ec W σ G H Q (r.bind k)) (hk : ∀ J ds G' H', r = .ok ds → Ext G H G' H' → WalkD K G' J ds → PostFr K ec W σ G' H' Q (k ds) → Q' J H') : PostI K ec W σ G H Q' r := by
  cases r with
  | ok d => exact fun v G' H' e p => hk v d G' H' rfl e p (PostFr.mono e h)
  | ex c => exact h
  | no => exact h
theorem PostFr.bindL {Q' : List V → Hp → Prop} {r : R (List PyData)} {k : List PyData → R PyData} (h : PostFr K ec W σ G H Q (r.bind k)) (hk : ∀ vs ds G' H', r = .ok ds → Ext G H G' H' → RepA K G' vs ds → PostFr K ec W σ G' H' Q (k ds) → Q' vs H') : PostL K ec W σ G H Q' r := by
  cases r with
  | ok d => exact fun v G' H' e p => hk v d G' H' rfl e p (PostFr.mono e h)
  | ex c => exact h
  | no => exact h
theorem Post.fr {r : R PyData} (h : Post K ec W σ G H Q r) : PostFr K ec W σ G H Q r := by
  cases r with
  | ok d => exact fun v G' H' e p => h v G' H' e p.rep
  | ex c => exact h
  | no => exact h
end
/-- an answer that is no object -/
def eAt (f : EF) (env : List (Option PyData)) : R PyData := (f env).bind fun d => if atomic d = true then .ok d else .no
/-- what a def promises whose lists are all new -/
def PostFF (K : PySem.W.Frag) (ec : Nat → Addr) (G H : Hp) (Q : VK) (E : XK) : R PyData → Prop
  | .ok d => ∀ v G' H', Ext G H G' H' → FrR K (fun b => H b = none) G' v d → Q v H'
  | .ex c => ∀ H', Same H H' → E (.ref (ec c)) none H'
  | .no => False
def spF (K : PySem.W.Frag) (ec : Nat → Addr) (n : Nat) (g : List PyData → R PyData) : Sp := fun vs H Q E => vs.length = n ∧ ∃ G ds, Tbs G ∧ Same G H ∧ RepA K G vs ds ∧ PostFF K ec G H Q E (g ds)
structure CalF (P : Program) (w : World) (K : PySem.W.Frag) (mg : Str → Option Value) (base : Heap) (ec : Nat → Addr) (x : Str) (n k : Nat) (g : List PyData → R PyData) : Prop where
  ex : ∃ (f : Addr) (fd : FuncData) (ps : List Str), FnOk P w K mg base (L2N.CX P w) k f fd ps (spF K ec n g) ∧ mg x = some (.ref f) ∧ PySem.W.keepIn K (.ref f) = true ∧ Binds K fd ps []
theorem spF_of {K : PySem.W.Frag} {ec : Nat → Addr} {n : Nat} {g : List PyData → R PyData} {vs : List V} {H : Hp} {Q : VK} {E : XK} (h : spP K ec n g vs H Q E) : spF K ec n g vs H Q E := by
  obtain ⟨h1, G, ds, t, s, r, p⟩ := h
  refine ⟨h1, G, ds, t, s, r, ?_⟩
  cases q : g ds with
  | ok d => rw [q] at p; exact fun v G' H' e f => p v G' H' e f.rep
  | ex c => rw [q] at p; exact p
  | no => rw [q] at p; exact p
theorem calF_of {P : Program} {w : World} {K : PySem.W.Frag} {mg : Str → Option Value} {base : Heap} {ec : Nat → Addr} {x qual : Str} {st : Stmt} {n k : Nat} {g : List PyData → R PyData} {f : Addr} {fd : FuncData} {ps : List Str}
    (F : Fun K x qual st f fd) (hm : mg x = some (.ref f)) (hb : Binds K fd ps []) (ok : FnOk P w K mg base (L2N.CX P w) k f fd ps (spF K ec n g)) : CalF P w K mg base ec x n k g := ⟨f, fd, ps, ok, hm, F.kp, hb⟩
theorem CalF.cal {P : Program} {w : World} {K : PySem.W.Frag} {mg : Str → Option Value} {base : Heap} {ec : Nat → Addr} {x : Str} {n k : Nat} {g : List PyData → R PyData} (C : CalF P w K mg base ec x n k g) : Cal P w K mg base ec x n k g := by
  obtain ⟨f, fd, ps, F, h⟩ := C.ex
  exact ⟨f, fd, ps, F.imp fun _ _ _ _ => spF_of, h⟩
section
variable {X : Cx} {ec : Nat → Addr} {W : WX} {e : Expr} {es : List Expr} {f : EF} {fs : List EF} {pos p : Pos} {x : Str} {n k : Nat} {g : List PyData → R PyData}
theorem sf_atom (h : PE X e (tD X.K ec W f)) : PE X e (tDF X.K ec W (eAt f)) := PE_imp h fun σ H Q ⟨G, env, s, E, q⟩ => by
  refine ⟨G, env, s, E, ?_⟩
  unfold eAt at q
  cases r : f env with
  | ok d =>
    rw [r, R.bind_ok] at q
    split at q
    · rename_i ha
      exact fun v G' H' e p => q v G' H' e (.atom p ha)
    · exact q.elim
  | ex c => rw [r] at q; exact q
  | no => rw [r] at q; exact q
theorem sf_call (C : CalF X.prog X.w X.K X.mg X.base ec x n k g) (tk : L2N.Takes X W) (hr : Room k X.A) (hg : Gl X x) (ha : PA X (e :: es) (tDA X.K ec W fs)) (hl : fs.length = n := by rfl) (hdb : (x == ("__debug__" : Str)) = false := by decide)
    (he : starEach (e :: es) X.env = (false, eval e X.env) :: starEach es X.env := by rfl) (hpl : (backTo pos (starEach es X.env)).any (·.1) = false := by rfl) : PE X (.Call (.Name x p) (e :: es) [] pos) (tDF X.K ec W (eCall g fs)) := by
  obtain ⟨f, fd, ps, F, hm, hk, hb⟩ := C.ex
  refine PE_imp (pe_callS (E := WE W) F hr hg hm hk hb (fun σ => L2N.passAt tk σ) ha hdb he hpl) fun σ H Q ⟨G, env, s, E, p⟩ => ?_
  refine ⟨G, env, s, E, PostFr.bindL p fun vs ds G1 H1 q e1 r1 p1 => ⟨by rw [r1.length, aAll_len q, hl], G1, ds, E.tb.mono e1.g, e1.i, r1, ?_⟩⟩
  cases q : g ds with
  | ok d => rw [q] at p1; exact p1
  | ex c => rw [q] at p1; exact p1
  | no => rw [q] at p1; exact p1
end
theorem tLc_F {K : PySem.W.Frag} {ec : Nat → Addr} {W : WX} {fi : LF} {g : TG} {tg : GE} {tt : TF} {te : EF} {vs : List Nat} (tk : TgOk K vs g tg) {σ : L2.St} {H : Hp} {Q : VK} :
    tDF K ec W (eLc tg fi tt te) σ H Q → tLc (tDI K ec W fi) g (tDT K ec WNo tt) (tDF K ec WNo te) vs σ H Q := by
  rintro ⟨G, env, s, E, p⟩
  refine ⟨G, env, s, E, PostFr.bindI p fun J ds G1 H1 q e1 w p1 D hD => ?_⟩
  cases ql : lcF tg tt te ds env with
  | ex c => rw [ql] at p1; exact p1.elim
  | no => rw [ql] at p1; exact p1.elim
  | ok ys =>
    rw [ql, R.sure_ok, R.bind_ok] at p1
    unfold lcE at p1
    split at p1
    · rename_i hsz
      have gD : G1 D = none := e1.i.free hD
      have wk : Walk J ds.length (fun H => Same G1 H) (fun i H x H' => ∀ Gc d, ds[i]? = some d → Same G1 Gc → Same Gc H → ∃ Gc', Ext Gc H Gc' H' ∧ Rep K Gc' x d) :=
        ⟨fun i H hi s => w.go i H hi s, fun H s => w.stop H s, fun i H x H' hi s y Gc d hd s1 s2 => w.yld i Gc H x H' d hd s1 s2 y⟩
      refine lc_it wk (fun i H => ∃ G2 acc us zs, Ext G1 H1 G2 H ∧ G2 D = none ∧ H D = some (.lst acc) ∧ FrA K (fun b => H1 b = none) G2 acc us ∧ lcF tg tt te (ds.drop i) env = .ok zs ∧ ys = us ++ zs)
        ⟨G1, [], [], ys, Ext.heap e1.i (same_new hD), gD, upd_same, .nil, ql, rfl⟩ ?_ ?_ ?_
      · rintro i H _ ⟨G2, acc, us, zs, e2, _⟩
        exact e2.g.trans e2.i
      · rintro i x H H' hi ⟨G2, acc, us, zs, e2, g2, hd2, r2, l2, hy⟩ y
        have hd : ds[i]? = some ds[i] := by simp [hi]
        obtain ⟨G3, e3, r3⟩ := y G2 ds[i] hd e2.g e2.i
        rw [List.drop_eq_getElem_cons hi] at l2
        cases qg : tg ds[i] env with
        | none => unfold lcF at l2; rw [qg] at l2; cases l2
        | some env3 =>
          have g3 : G3 D = none := e3.clean g2 hd2
          refine tk G3 H' σ env env3 x ds[i] _ e3.i (E.mono (e1.g.trans (e2.g.trans e3.g))) r3 qg fun σ2 hw E2 => ⟨hw, ?_⟩
          rcases lcF_len l2 qg with ⟨t0, l3⟩ | ⟨t0, y0, zs0, ty, l3, ez⟩
          · refine ⟨G3, env3, e3.i, E2, ?_⟩
            rw [t0]
            intro H4 s4
            refine iteF ⟨G3, acc, us, zs, (e2.trans e3).trans (Ext.heap e3.i s4), g3, s4.lst (e3.h.lst hd2), r2.mono e3.g fun _ n => n, l3, hy⟩
          · refine ⟨G3, env3, e3.i, E2, ?_⟩
            rw [t0]
            intro H4 s4
            refine iteT ⟨G3, env3, e3.i.trans s4, E2, ?_⟩
            rw [ty]
            intro v G5 H5 e5 r5
            have hd5 : H5 D = some (.lst acc) := e5.h.lst (s4.lst (e3.h.lst hd2))
            have g5 : G5 D = none := e5.clean g3 (s4.lst (e3.h.lst hd2))
            have hacc : acc.length < szl := by
              rw [r2.rep.length]
              have := congrArg List.length hy
              rw [List.length_append, ez, List.length_cons] at this
              omega
            have e4 : Same H1 H4 := ((e2.trans e3).h).trans s4
            have e6 : Ext G1 H1 G5 H5 := (e2.trans e3).trans ((Ext.heap e3.i s4).trans e5)
            refine ⟨acc, hd5, Nat.lt_of_lt_of_le hacc (szl_line (Nat.le_refl _)), G5, acc ++ [v], us ++ [y0], zs0, ⟨e6.g, same_put e6.h hD hd5 (tame_lst _), same_put e6.i g5 hd5 (tame_lst _), e6.f⟩, g5, upd_same, (r2.mono (e3.g.trans e5.g) fun _ n => n).append (.cons (r5.mono (Same.refl _) fun a n => e4.free n) .nil), l3, by rw [hy, ez, List.append_assoc]; rfl⟩
      · rintro H ⟨G2, acc, us, zs, e2, g2, hd2, r2, l2, hy⟩
        rw [List.drop_length] at l2
        cases l2
        rw [List.append_nil] at hy
        subst hy
        have sg : Same G2 (upd G2 D (.lst acc)) := same_new g2
        have ee : Ext G1 H1 (upd G2 D (.lst acc)) H := by
          refine ⟨e2.g.trans sg, e2.h, same_in e2.i hd2 (tame_lst _), fun b h1 h2 => ?_⟩
          · by_cases hb : b = D
            · subst hb; exact hD
            · rw [upd_ne hb] at h1; exact e2.f b h1 h2
        exact p1 (.ref D) _ H ee (.lst upd_same hD (r2.mono sg fun _ n => n))
    · exact p1.elim
section
variable {X : Cx} {ec : Nat → Addr} {W : WX} {elt tg iter : Expr} {ifs : List Expr} {scope : Scope} {own : List (Str × Nat)} {pos : Pos} {g : TG} {gd : GE} {fi : LF} {tt : TF} {te : EF} {vs : List Nat}
theorem sf_lc (tk : TgOk X.K vs g gd) (hv : own.map (·.2) = vs) (hc : X.calm = true) (hN : X.N.Nodup) (hi : PI X tg iter (tDI X.K ec W fi)) (ok : BlkOk X.N X.env.scope scope own)
    (hg : ∀ (s : Shared) (H : Hp) (C : Addr) (cl : List (Str × Addr)) (fp : List Addr), PG (X.blk s H scope (compEnvC scope cl C X.env) fp) tg g) (ht : ∀ (s : Shared) (H : Hp) (C : Addr) (cl : List (Str × Addr)) (fp : List Addr), PTs (X.blk s H scope (compEnvC scope cl C X.env) fp) ifs (tDT X.K ec WNo tt))
    (he : ∀ (s : Shared) (H : Hp) (C : Addr) (cl : List (Str × Addr)) (fp : List Addr), PE (X.blk s H scope (compEnvC scope cl C X.env) fp) elt (tDF X.K ec WNo te)) (hs : ∀ x, foldedSetIterable iter X.env x = pure x := by intro _; rfl) :
    PE X (.ListComp elt [⟨tg, iter, ifs, 0⟩] scope pos) (tDF X.K ec W (eLc gd fi tt te)) :=
  PE_imp (pe_lc hc hN hi ok hg ht he hs) fun σ H Q h => by rw [hv]; exact tLc_F tk h
end

/-! ### statements of a def whose answer is new -/
def PostSF (K : PySem.W.Frag) (ec : Nat → Addr) (W : WX) (G0 H0 G : Hp) (D : Ends) : Out → Prop
  | .nx e => ∀ σ' G' H', Same G G' → StR K G0 H0 G' H' σ' e → D.nx σ' H'
  | .rt d => ∀ v G' H', Ext G0 H0 G' H' → FrR K (fun b => H0 b = none) G' v d → D.rt v H'
  | .ex c => ∀ σ' H', Same H0 H' → W (.ref (ec c)) none σ' H'
  | _ => False
def tDSF (K : PySem.W.Frag) (ec : Nat → Addr) (W : WX) (G0 H0 : Hp) (f : SF) : TS := fun D σ H => ∃ G env, StR K G0 H0 G H σ env ∧ PostSF K ec W G0 H0 G D (f env)
theorem PostSF.mono {K : PySem.W.Frag} {ec : Nat → Addr} {W : WX} {G0 H0 G G' : Hp} {D : Ends} {o : Out} (g : Same G G') (h : PostSF K ec W G0 H0 G D o) : PostSF K ec W G0 H0 G' D o := by
  cases o with
  | nx e => exact fun σ' G2 H' e2 => h σ' G2 H' (g.trans e2)
  | rt d => exact h
  | ex c => exact h
  | _ => exact h
/-- ahead of it nothing is told -/
def sSeqF (f g : SF) (env : Ev) : Out := match f env with
  | .nx e => g e
  | .ex c => .ex c
  | _ => .no
def sRetP (f : EF) (env : Ev) : Out := (f (env.map Sl.pur)).out fun d => .rt d
section
variable {X : Cx} {ec : Nat → Addr} {W : WX} {G0 H0 : Hp} {st : Stmt} {rest body els : List Stmt} {f g : SF} {e c : Expr} {fe : EF} {ft : TF} {pos : Pos}
theorem sx_consF (h1 : PS X st (tDS X.K ec W G0 H0 f)) (h2 : PSs X rest (tDSF X.K ec W G0 H0 g)) : PSs X (st :: rest) (tDSF X.K ec W G0 H0 (sSeqF f g)) := by
  refine PSs_imp (pss_cons h1 h2) fun D σ H ⟨G, env, S, p⟩ => ⟨G, env, S, ?_⟩
  unfold sSeqF at p
  cases q : f env with
  | nx e => rw [q] at p; exact fun σ' G' H' s' S' => ⟨G', e, S', PostSF.mono s' p⟩
  | ex c => rw [q] at p; exact p
  | _ => rw [q] at p; exact p.elim
theorem sx_cons (h1 : PS X st (tDSF X.K ec W G0 H0 f)) (h2 : PSs X rest (tDSF X.K ec W G0 H0 g)) : PSs X (st :: rest) (tDSF X.K ec W G0 H0 (sSeq f g)) := by
  refine PSs_imp (pss_cons h1 h2) fun D σ H ⟨G, env, S, p⟩ => ⟨G, env, S, ?_⟩
  unfold sSeq at p
  cases q : f env with
  | nx e => rw [q] at p; exact fun σ' G' H' s' S' => ⟨G', e, S', PostSF.mono s' p⟩
  | ex c => rw [q] at p; exact p
  | rt d => rw [q] at p; exact p
  | _ => rw [q] at p; exact p.elim
theorem sx_one (h1 : PS X st (tDSF X.K ec W G0 H0 f)) : PSs X [st] (tDSF X.K ec W G0 H0 f) := pss_one h1
theorem sx_nil : PSs X [] (tDSF X.K ec W G0 H0 sNil) := PSs_imp pss_nil fun D σ H ⟨G, env, S, p⟩ => p σ G H (Same.refl _) S
theorem sx_frz (i : Nat) (h : PSs X rest (tDSF X.K ec W G0 H0 f)) : PSs X rest (tDSF X.K ec W G0 H0 (sFrz i f)) :=
  PSs_imp h fun D σ H ⟨G, env, S, p⟩ => by
    obtain ⟨G', s, S'⟩ := S.frz i
    exact ⟨G', _, S', PostSF.mono s p⟩
theorem sx_ret (he : PE X e (tDF X.K ec W fe)) : PS X (.Return (some e) pos) (tDSF X.K ec W G0 H0 (sRetP fe)) :=
  PS_imp (ps_ret he) fun D σ H ⟨G, env, S, p⟩ => by
    refine ⟨G, env.map Sl.pur, S.x.i, S.envP, ?_⟩
    unfold sRetP at p
    cases q : fe (env.map Sl.pur) with
    | ok d => rw [q] at p; exact fun v G' H' e r => p v G' H' (S.x.trans e) (r.mono (Same.refl _) fun a n => S.x.h.free n)
    | ex c => rw [q] at p; exact fun H' s => p σ H' (S.x.h.trans s)
    | no => rw [q] at p; exact p
theorem sx_if (hc : PT X c (tDT X.K ec W ft)) (ha : PSs X body (tDSF X.K ec W G0 H0 f)) (hb : PSs X els (tDSF X.K ec W G0 H0 g)) : PS X (.If c body els pos) (tDSF X.K ec W G0 H0 (sIf ft f g)) :=
  PS_imp (ps_if hc ha hb) fun D σ H ⟨G, env, S, p⟩ => by
    refine ⟨viewF G H σ env, env.map Sl.full, S.viewH, S.envF, ?_⟩
    unfold sIf at p
    cases q : ft (env.map Sl.full) with
    | ok k =>
      rw [q] at p
      intro H' s
      have S' := S.grow (Ext.heap S.x.i s)
      cases k with
      | true => exact iteT ⟨G, env, S', p⟩
      | false => exact iteF ⟨G, env, S', p⟩
    | ex c => rw [q] at p; exact fun H' s => p σ H' (S.x.h.trans s)
    | no => rw [q] at p; exact p
end
section
variable {X : Cx} {ec : Nat → Addr} {W : WX} {G0 H0 : Hp} {wd : Nat → Option Str} {k i : Nat} {x xe n : Str} {cT : Addr} {body : List Stmt} {fb : SF} {np q1 q2 q3 q4 pos pos' : Pos}
theorem sx_try (i0 : Same G0 H0) (C : CalW X.prog X.w X.K X.mg X.base ec x k wd) (hr : Room k X.A) (tk : L2N.Takes X W) (hs : X.stack = X.env :: X.outer) (hf : X.env.frame = some X.env.locals) (hN : X.N.Nodup) (hi : X.N[i]? = some n) (hln : X.env.kindOf n = some .local) (hgx : Gl X x) (hge : Gl X xe) (hme : X.mg xe = some (.ref cT))
    (hex : ∀ c z, wd c = some z → PySem.W.exmOne X.K (.ref (ec c)) (.ref cT) = some true)
    (hb : ∀ (W' : WX) (pn : List (Addr × Obj)) (xx : Value → Shared → Prop), L2N.Takes (X.tr pn xx) W' → PassesOwn (model X.prog X.w) X.A X.env xx → PSs (X.tr pn xx) body (tDSF X.K ec W' G0 H0 fb))
    (hv : Vis X.env.scope n) (hd : (n == ("__debug__" : Str)) = false := by decide) (hcd : (n == ("__classdict__" : Str)) = false := by decide) (hdx : (x == ("__debug__" : Str)) = false := by decide) (hde : (xe == ("__debug__" : Str)) = false := by decide)
    (hst : starEach [.Name n q2] X.env = (false, eval (.Name n q2) X.env) :: starEach [] X.env := by rfl) :
    PS X (.Try body [.ExceptHandler (some (.Name xe np)) (some n) [.Return (some (.Call (.Name x q1) [.Name n q2] [] q3)) q4] pos'] [] [] pos) (tDSF X.K ec W G0 H0 (sTry wd fb)) := by
  have hsu : ∀ (a : Addr) (oe : Obj) (cls : Value) (d : Option Addr) (pn : List (Addr × Obj)), L2N.Zn cls d oe → (∃ vs, oe.data = .fields vs) → PSs (X.suite a ((a, oe) :: pn)) [.Return (some (.Call (.Name x q1) [.Name n q2] [] q3)) q4]
      (fun D σ H => (∃ σ0 : L2.St, σ = σ0.set i (some (.ref a))) ∧ ∃ c z, cls = .ref (ec c) ∧ d = none ∧ wd c = some z ∧ ∀ H', Same H H' → D.rt (.str z) H') := by
    intro a oe cls d pn hz hff
    refine ⟨fun pins s σ H D I h => ?_⟩
    obtain ⟨⟨σ0, e0⟩, c, z, rfl, rfl, hwd, q⟩ := h
    obtain ⟨vs, hvs⟩ := hff
    have hot : Hot1 (X.suite a ((a, oe) :: pn)).A (a, oe) := ⟨rfl, vs, hvs, hz.2.2 vs hvs⟩
    have rh : RoomH k (X.suite a ((a, oe) :: pn)).A := ⟨hr.dp, hr.un⟩
    refine (pss_one (ps_ret (pe_callW (X := X.suite a ((a, oe) :: pn)) (p := (a, oe)) C rh List.mem_cons_self hot hz hwd hgx (pe_var (X := X.suite a ((a, oe) :: pn)) hi hv hd hcd) hdx hst))).run pins s σ H D I ⟨?_, q⟩
    subst e0
    refine List.getElem?_set_self ?_
    have := I.len
    rw [List.length_set] at this
    rw [this]
    exact (List.getElem?_eq_some_iff.mp hi).1
  refine PS_imp (L2N.ps_try_as (np := np) (pos := pos) (pos' := pos') hs hf hN hi hln ⟨hge, hde, .inl hme⟩ tk (tb := fun W' => tDSF X.K ec W' G0 H0 fb) hb hsu) fun D σ H ⟨G, env, S, p⟩ => ⟨G, env, S, ?_⟩
  unfold sTry at p
  cases q : fb env with
  | ex c =>
    rw [q] at p
    dsimp only at p
    cases qw : wd c with
    | none => rw [qw] at p; exact p.elim
    | some z =>
      rw [qw] at p
      intro σ' H' hH
      refine ⟨true, hex c z qw, fun _ a na => ⟨⟨σ', rfl⟩, c, z, rfl, rfl, qw, fun H2 s2 => ?_⟩, fun z => nomatch z⟩
      exact p _ G0 H2 (Ext.heap i0 (hH.trans s2)) (.str z)
  | nx e => rw [q] at p; exact p
  | rt d => rw [q] at p; exact p
  | _ => rw [q] at p; exact p.elim
end
section
variable {P : Program} {w : World} {K : PySem.W.Frag} {mg : Str → Option Value} {base : Heap}
theorem fn_fresh {ec : Nat → Addr} {x qual : Str} {st : Stmt} {f : Addr} {fd : FuncData} {N ps : List Str} {k n : Nat} {fb : SF} (F : Fun K x qual st f fd) (S : FnScope N ps (defScope st)) (hn : ps.length = n)
    (hbody : ∀ (cdv : Value) (A : Around) (outer : List Env) (s : Shared) (G0 H : Hp) (E : XK), Same G0 H → Room k (A.deeper (envOfC qual (defScope st) s.heap.objs.size f cdv)) →
      PSs (cxOf (L2N.CX P w) P w K mg base N qual (defScope st) f cdv A outer s H E) (defBody st) (tDSF K ec (fun cls d _ H => E cls d H) G0 H fb)) :
    FnOk P w K mg base (L2N.CX P w) (k + 1) f fd ps (spF K ec n (runB N.length fb)) := by
  obtain ⟨oc, od, kV, doc, pm, an, cdv, ct, osl, rfl, lk, hcd⟩ := F.ex
  refine fn_of lk hcd S (fun vs H Q E h => by rw [h.1, hn]) fun A outer s H vs Q E hr h => ?_
  obtain ⟨hl, G, ds, t, i, r, p⟩ := h
  refine ⟨_, hbody cdv A outer s G H E i hr, G, _, start_ok t i r, ?_⟩
  unfold runB at p
  cases q : fb (entry N.length ds) with
  | nx e => rw [q] at p; exact fun σ' G' H' g S' => p _ G' H' S'.x .non
  | rt d => rw [q] at p; exact p
  | ex c => rw [q] at p; exact fun _ H' s => p H' s
  | _ => rw [q] at p; exact p.elim
end

/-! ### x = f(..); if ..: return False; x[0].append(n): what was told is new, and is never read again -/
noncomputable def sMut0 (i : Nat) (fe : EF) (ft : TF) (fr : SF) (env : Ev) : Out := (fe (env.map Sl.pur)).out fun d => (ft ((env.set i (.pu d)).map Sl.full)).outB fun b => if b = true then .rt (.bool false) else match d with
  | .list (.list ds :: _) => if ds.length < szl ∧ i < env.length then fr (env.set i .no) else .no
  | _ => .no
theorem StR.lost {K : PySem.W.Frag} {G0 H0 G H H' : Hp} {σ : L2.St} {env : Ev} (S : StR K G0 H0 G H σ env) (i : Nat) (v : V) (hs : Same H H') : StR K G0 H0 G H' (σ.set i (some v)) (env.set i .no) := by
  have nx : ∀ {j : Nat} {s : Sl}, (env.set i .no)[j]? = some s → s ≠ .no → j ≠ i ∧ env[j]? = some s := fun {j s} h hn => by
    rcases get_set h with ⟨_, h2⟩ | h
    · exact absurd h2 hn
    · exact h
  have sg : ∀ {j : Nat}, j ≠ i → (σ.set i (some v))[j]? = σ[j]? := fun {j} h => by rw [List.getElem?_set_ne (fun z => h z.symm)]
  refine ⟨S.tb, ⟨S.x.g, S.x.h.trans hs, S.x.i.trans hs, S.x.f⟩, by rw [List.length_set, List.length_set]; exact S.len, fun j d h => ?_, fun j d h => ?_, fun j k d d' l hjk h1 h2 h3 h4 => ?_, (S.ob.grow (Ext.heap S.x.i hs)).set i (some v) .no (fun _ z => by cases z)⟩
  · obtain ⟨hj, h⟩ := nx h (by simp)
    rw [sg hj]
    exact S.pu j d h
  · obtain ⟨hj, h⟩ := nx h (by simp)
    rw [sg hj]
    obtain ⟨l, a1, a2, a3, a4⟩ := S.ow j d h
    exact ⟨l, a1, a2, a3, a4.mono (Same.refl _) fun o e k => hs.ap l o e k.1⟩
  · obtain ⟨hj, h1⟩ := nx h1 (by simp)
    obtain ⟨hk, h2⟩ := nx h2 (by simp)
    rw [sg hj] at h3
    rw [sg hk] at h4
    exact S.dj j k d d' l hjk h1 h2 h3 h4
section
variable {X : Cx} {ec : Nat → Addr} {W : WX} {G0 H0 : Hp} {rest : List Stmt} {fr : SF} {e c : Expr} {fe : EF} {ft : TF} {i : Nat} {x : Str} {n : Int} {j1 j2 j3 : Nat} {pos p1 p2 p3 p4 p5 p6 p7 p8 p9 apos cpos : Pos}
theorem ss_mut0 (hN : X.N.Nodup) (he : PE X e (tDF X.K ec W fe)) (ht : PT X c (tDT X.K ec W ft)) (hr : PSs X rest (tDS X.K ec W G0 H0 fr)) (hi : X.N[i]? = some x := by rfl) (hx : Loc X.env.scope x := by first | exact Or.inl rfl | exact Or.inr rfl) (hsw : swapsWith e (some (.Name x p1)) pos.line X.env = pure false := by rfl)
    (hf : X.fn x = true ∨ X.env.scope.names.lookup x = some .local := by first | exact .inl rfl | exact .inr rfl | assumption) (hv : Vis X.env.scope x := by first | exact Or.inl rfl | exact Or.inr (Or.inl rfl) | exact Or.inr (Or.inr rfl)) (hd : (x == ("__debug__" : Str)) = false := by decide) (hcd : (x == ("__classdict__" : Str)) = false := by decide)
    (hfew : ((backTo cpos (starEach [.Constant (.int n) j3 p8] X.env)).all (fun x => !x.1) && (backToKw cpos (keywordEach [] X.env)).all (fun x => x.1.isSome)
      && decide (([.Constant (.int n) j3 p8] : List Expr).length + ([] : List Keyword).length + (if ([] : List Keyword).isEmpty then 0 else 1) < 30)) = true := by rfl)
    (hline : (apos.endLine == cpos.line) = true := by rfl) (hst : starEach [.Constant (.int n) j3 p8] X.env = (false, eval (.Constant (.int n) j3 p8) X.env) :: starEach [] X.env := by rfl)
    (hb : attributeBase (.Subscript (.Name x p5) (.Constant (.int 0) j2 p6) p7) "append" X.env (eval (.Subscript (.Name x p5) (.Constant (.int 0) j2 p6) p7) X.env) = eval (.Subscript (.Name x p5) (.Constant (.int 0) j2 p6) p7) X.env := by rfl) :
    PSs X (.Assign [.Name x p1] e pos :: .If c [.Return (some (.Constant (.bool false) j1 p2)) p3] [] p4 :: .Expr (.Call (.Attribute (.Subscript (.Name x p5) (.Constant (.int 0) j2 p6) p7) "append" apos) [.Constant (.int n) j3 p8] [] cpos) p9 :: rest) (tDS X.K ec W G0 H0 (sMut0 i fe ft fr)) := by
  refine PSs_imp (pss_cons (ps_set (i := i) hN hi hx he hsw hf) (pss_cons (ps_if ht (pss_one (ps_ret pe_bl)) pss_nil) (pss_cons (ps_expr (pe_bm PySem.F.plainAttrs_list PySem.F.slot_list_append PySem.F.type_list_append mt_append (pe_ix ix_seq (pe_var hi hv hd hcd) pe_int (fun _ _ => rfl)) (pa_cons pe_int pa_nil hst) hb hfew hline hst rfl)) hr))) fun D σ H ⟨G, env, S, p⟩ => ?_
  refine ⟨G, env.map Sl.pur, S.x.i, S.envP, ?_⟩
  unfold sMut0 at p
  cases q : fe (env.map Sl.pur) with
  | ex c => rw [q] at p; exact fun H' s => p σ H' (S.x.h.trans s)
  | no => rw [q] at p; exact p
  | ok d =>
    rw [q] at p
    intro v G' H' e1 r1
    have S1 : StR X.K G0 H0 G' H' (σ.set i (some v)) (env.set i (.pu d)) := (S.grow e1).setP r1.rep
    refine ⟨viewF G' H' (σ.set i (some v)) (env.set i (.pu d)), (env.set i (.pu d)).map Sl.full, S1.viewH, S1.envF, ?_⟩
    simp only [R.out] at p
    cases qt : ft ((env.set i (.pu d)).map Sl.full) with
    | ex c => rw [qt] at p; exact fun H2 s => p _ H2 (S1.x.h.trans s)
    | no => rw [qt] at p; exact p
    | ok b =>
      rw [qt] at p
      simp only [R.outB] at p
      intro H2 s2
      cases b with
      | true =>
        rw [if_pos rfl] at p
        exact iteT (p _ G' H2 (S1.grow (Ext.heap S1.x.i s2)).x (.bl false))
      | false =>
        rw [if_neg (by simp)] at p
        refine iteF ?_
        split at p
        · rename_i ds dr
          split at p
          · rename_i hz
            cases r1 with
            | lst ga na ra =>
              rename_i a xs
              cases ra with
              | cons r0 rr =>
                cases r0 with
                | lst gb nb rb =>
                  rename_i vs b ws
                  have ha2 : H2 a = some (.lst (.ref b :: vs)) := s2.lst (e1.i.lst ga)
                  have hb2 : H2 b = some (.lst ws) := s2.lst (e1.i.lst gb)
                  have hsi : (σ.set i (some (.ref a)))[i]? = some (some (.ref a)) := by
                    rw [List.getElem?_set_self]
                    rw [S.len]
                    exact hz.2
                  have hwl : ws.length < sizeLine := by
                    rw [rb.rep.length]
                    exact Nat.lt_of_lt_of_le hz.1 (szl_line (Nat.le_refl _))
                  refine ⟨_, hsi, .inl ⟨a, .ref b :: vs, 0, .ref b, rfl, rfl, SqL.of ha2, (by have := atI_of (xs := V.ref b :: vs) (i := 0) (by simp); simpa using this), .inl ⟨rfl, ws, SqL.of hb2⟩, ?_⟩⟩
                  refine ⟨b, ws, _, rfl, rfl, hb2, hwl, ?_⟩
                  have lost := S.lost (H' := upd H2 b (.lst (ws ++ [.int n]))) i (.ref a) (same_put (e1.h.trans s2) nb hb2 (tame_lst _))
                  exact ⟨G, _, lost, p⟩
          · exact p.elim
        · exact p.elim
end
end PL
/-! PL, part w: sorted of a list of alike data. -/
namespace PL
open PySem PySem.Spec PyProof.Rows L2
theorem each_vals : ∀ {xs : List V} {its : List Value}, Vals xs its → ∀ {ds : List PyData}, xs.length = ds.length → PySem.W.EachIs (fun (u : Value) (b : V × PyData) => RelV b.1 u) its (xs.zip ds)
  | [], _, .nil, [], _ => .nil
  | x :: xs, _, .cons r t, d :: ds, h => .cons r (each_vals t (by simpa using h))
theorem vals_each : ∀ {its : List Value} {bs : List (V × PyData)}, PySem.W.EachIs (fun (u : Value) (b : V × PyData) => RelV b.1 u) its bs → Vals (bs.map (·.1)) its
  | _, _, .nil => .nil
  | _, _, .cons r t => .cons r (vals_each t)

/-- data that sorted takes: alike, and all nonempty tuples or no tuples at all -/
def okSort (ds : List PyData) : Bool := (ds.all fun d => ds.all fun e => PySem.W.alike d e) && ((ds.all fun d => match d with | .tuple (_ :: _) => true | _ => false) || (ds.all fun d => match d with | .tuple _ => false | .none => false | _ => true)) && (ds.all fun d => SeqAt.shaped d)
theorem okSort_alike {ds : List PyData} (h : okSort ds = true) : PySem.W.AllAlike ds := by
  unfold okSort at h
  simp only [Bool.and_eq_true, List.all_eq_true] at h
  exact h.1.1
theorem okSort_sortable {ds : List PyData} (h : okSort ds = true) : PySem.W.Sortable ds := by
  unfold okSort at h
  simp only [Bool.and_eq_true, Bool.or_eq_true, List.all_eq_true] at h
  rcases h.1.2 with h | h
  · refine .inl fun d hd => ?_
    have := h d hd
    split at this
    · exact ⟨_, _, rfl⟩
    · cases this
  · refine .inr fun d hd => ?_
    have := h d hd
    constructor
    · rintro rfl
      cases this
    · rintro xs rfl
      cases this
theorem okSort_shaped {ds : List PyData} (h : okSort ds = true) : ∀ d, d ∈ ds → SeqAt.shaped d = true := by
  unfold okSort at h
  simp only [Bool.and_eq_true, List.all_eq_true] at h
  exact h.2
abbrev srtB (xs : List V) (ds : List PyData) : List (V × PyData) := (xs.zip ds).mergeSort (PySem.W.dataLe false (·.2))
def rSortedD (K : PySem.W.Frag) : List V → Hp → VK → Prop := fun vs H Q => ∃ (a : Addr) (xs : List V) (ds : List PyData), vs = [V.ref a] ∧ SqL K H a xs ∧ DpAll K H xs ds ∧ okSort ds = true ∧ ds.length ≤ sizeLine ∧
  ∀ p : Addr, H p = none → Q (.ref p) (upd H p (.lst ((srtB xs ds).map (·.1))))

section
variable {X : Cx}
theorem dp_len {K : PySem.W.Frag} {H : Hp} : ∀ {xs : List V} {ds : List PyData}, DpAll K H xs ds → xs.length = ds.length
  | _, _, .nil => rfl
  | _, _, .cons _ t => by simp [dp_len t]
theorem each_reads {X : Cx} {pins : List (Addr × Obj)} {σ : L2.St} {H : Hp} {s : Shared} (I : L2.Inv X pins σ H s) : ∀ {xs : List V} {ds : List PyData} {its : List Value}, DpAll X.K H xs ds → Vals xs its → PySem.W.EachIs (fun (u : Value) (b : V × PyData) => ∃ as, Reads s.heap u b.2 as) its (xs.zip ds)
  | _, _, _, .nil, .nil => .nil
  | _, _, _, .cons d t, .cons r u => .cons (Dp.reads I _ _ _ d r) (each_reads I t u)
theorem zip_snd : ∀ {xs : List V} {ds : List PyData}, xs.length = ds.length → (xs.zip ds).map (·.2) = ds
  | [], [], _ => rfl
  | x :: xs, d :: ds, h => by simp [zip_snd (xs := xs) (ds := ds) (by simpa using h)]
theorem cr_sortedD (hu : X.A.units + 70 < cLine) : CallR X (.builtin "sorted") (rSortedD X.K) := by
  intro pins s σ H vs us Q I r h
  obtain ⟨a, xs, ds, rfl, hs, hd, ho, hz, q⟩ := h
  obtain ⟨its, rv, hl, _⟩ := I.list hs
  rw [Vals.ref1 r]
  have hlen := dp_len hd
  have hb : (xs.zip ds).length = ds.length := by rw [List.length_zip, hlen, Nat.min_self]
  refine PySem.W.sorted_data (vs := its) (enc := (·.2)) (R := fun (u : Value) (b : V × PyData) => RelV b.1 u) (bs := xs.zip ds) hl.isList (each_vals rv hlen) (each_reads I hd rv) (by rw [zip_snd hlen]; exact okSort_alike ho) (by rw [zip_snd hlen]; exact okSort_sortable ho) (by rw [hb]; exact hz) ?_ fun out ol oe => ?_
  · intro b hbm
    have hm : b.2 ∈ ds := by rw [← zip_snd hlen]; exact List.mem_map_of_mem hbm
    have s1 := okSort_shaped ho _ hm
    have hd : b.2.depth ≤ 64 := by
      unfold SeqAt.shaped at s1
      rw [Bool.and_eq_true, decide_eq_true_eq] at s1
      exact s1.2
    omega
  · obtain ⟨ep, he'⟩ := PyProof.Rows.sortedAll_at s.heap its out.toArray
    have hle : ((srtB xs ds).map (·.1)).length ≤ sizeLine := by rw [List.length_map, List.length_mergeSort, hb]; exact hz
    exact ⟨.ref _, upd H (s.heap.objs.size + 1) (.lst ((srtB xs ds).map (·.1))), I.laid (t' := s.toks) (fun _ _ => PyProof.Rows.sortedAll_old) (Nat.le_succ _) ⟨hle, out, ep, vals_each oe, he'⟩, rfl, q _ (I.hok.fresh (Nat.le_succ _))⟩
end

/-! ### sorted(xs) as an expression -/
def dSort (ds : List PyData) : List PyData := ds.mergeSort (PySem.W.dataLe false id)
theorem srtB_snd {xs : List V} {ds : List PyData} (h : xs.length = ds.length) : (srtB xs ds).map (·.2) = dSort ds := by
  have e := List.map_mergeSort (l := xs.zip ds) (f := (·.2)) (r := PySem.W.dataLe false (·.2)) (s := PySem.W.dataLe false (id : PyData → PyData)) (fun _ _ _ _ => rfl)
  rw [zip_snd h] at e
  exact e
theorem repA_zip {K : PySem.W.Frag} {G : Hp} : ∀ {xs : List V} {ds : List PyData}, RepA K G xs ds → ∀ b ∈ xs.zip ds, Rep K G b.1 b.2
  | _, _, .nil, b, h => by cases h
  | _, _, .cons r t, b, h => by
    rcases List.mem_cons.mp h with rfl | h
    · exact r
    · exact repA_zip t b h
theorem repA_of {K : PySem.W.Frag} {G : Hp} : ∀ {bs : List (V × PyData)}, (∀ b ∈ bs, Rep K G b.1 b.2) → RepA K G (bs.map (·.1)) (bs.map (·.2))
  | [], _ => .nil
  | b :: bs, h => .cons (h b List.mem_cons_self) (repA_of fun c hc => h c (List.mem_cons_of_mem _ hc))
theorem repA_len {K : PySem.W.Frag} {G : Hp} : ∀ {xs : List V} {ds : List PyData}, RepA K G xs ds → xs.length = ds.length
  | _, _, .nil => rfl
  | _, _, .cons _ t => by simp [repA_len t]
theorem repA_sort {K : PySem.W.Frag} {G : Hp} {xs : List V} {ds : List PyData} (r : RepA K G xs ds) : RepA K G ((srtB xs ds).map (·.1)) (dSort ds) := by
  rw [← srtB_snd (repA_len r)]
  exact repA_of fun b hb => repA_zip r b ((List.mergeSort_perm _ _).mem_iff.mp hb)

noncomputable def gSortD : List PyData → R PyData
  | [.list es] => if okSort es = true ∧ es.length ≤ szl then .ok (.list (dSort es)) else .no
  | _ => .no
theorem xl_sortD : NoExL gSortD := by
  intro x c h
  unfold gSortD at h
  split at h
  · split at h <;> cases h
  · cases h
theorem shaped_all {ds : List PyData} (h : ∀ d, d ∈ ds → SeqAt.shaped d = true) : PyData.canLayAll0 ds = true := by
  induction ds with
  | nil => rfl
  | cons d ds ih =>
    show (d.canLay0 && PyData.canLayAll0 ds) = true
    rw [Bool.and_eq_true]
    exact ⟨SeqAt.canLay_of_shaped (h d List.mem_cons_self), ih fun e he => h e (List.mem_cons_of_mem _ he)⟩
theorem cd_sortD {K : PySem.W.Frag} : CallD K (rSortedD K) gSortD := by
  intro vs ds d G H Q i r h q
  unfold gSortD at h
  split at h
  · split at h
    · rename_i es hs
      cases h
      cases r with
      | cons a b =>
        cases b
        cases a with
        | @lst l xs _ hl r =>
          refine ⟨l, xs, es, rfl, (ls_same i hl).sq, (RepA.mono i r).dp (shaped_all (okSort_shaped hs.1)), hs.1, szl_line hs.2, fun p n => q _ _ _ (Ext.new i n) (ext_list i n (repA_sort r))⟩
    · cases h
  · cases h
section
variable {X : Cx} {ec : Nat → Addr} {W : WX} {e e2 : Expr} {fs : List EF} {f : EF} {p q pos : Pos}
theorem se_sortD (hu : X.A.units + 70 < cLine) (hg : Gl X "sorted") (hm : X.mg "sorted" = none) (ha : PA X [e] (tDA X.K ec W fs)) (he : starEach [e] X.env = (false, eval e X.env) :: starEach [] X.env := by rfl) : PE X (.Call (.Name "sorted" p) [e] [] pos) (tD X.K ec W (eCall gSortD fs)) := se_callB (cr_sortedD hu) cd_sortD xl_sortD hg hm (by decide +kernel) ha (he := he) (hpl := rfl)
end
end PL
/-! PL, part n: sorted(xs, key=lambda at: (0 - heights[at], at)), heights a captured list of whole numbers. -/
namespace PL
open PySem PySem.Spec PyProof.Rows L2

abbrev lamSc : Scope := { kind := .function, names := [(Str.ofString "at", .local), (Str.ofString "heights", .free)], isGenerator := false, isCoroutine := false, more := [] }
abbrev lamPar (pa : Pos) : Arguments := { posonlyargs := [], args := [{ arg := "at", annotation := none, pos := pa }], vararg := none, kwonlyargs := [], kw_defaults := [], kwarg := none, defaults := [] }
abbrev lamBody (j0 kk : Nat) (p1 p2 p3 p4 p5 p6 p7 : Pos) : Expr := .Tuple [.BinOp (.Constant (.int 0) j0 p1) .Sub (.Subscript (.Name "heights" p2) (.Name "at" p3) p4) p5, .Name "at" p6] kk p7
/-- the key of a place -/
def keyI (js : List Int) (i : Int) : PyData := .tuple [.int (0 - js.getD i.toNat 0), .int i]

section
variable {prog : Program} {w : World} {A : Around} {s : Shared} {f c' cc L : Addr} {qual : Str} {cl : List (Str × Addr)} {pm ctv : Value} {its : List Value} {js : List Int} {j0 kk : Nat} {pa p1 p2 p3 p4 p5 p6 p7 : Pos} {i : Int} {t : Tok}
theorem key_call (hroom : A.depth < recursionLimit) (lim : s.heap.NoLimit) (ho : s.heap.get? f = some (PySem.W.kla_obj "<lambda>" qual (lamPar pa) (lamBody j0 kk p1 p2 p3 p4 p5 p6 p7) lamSc cl pm c' ctv)) (hcd : s.heap.CodeRec (.ref c') qual)
    (hcl : cl.lookup (Str.ofString "heights") = some cc) (hcell : s.heap.IsCell cc (some (.ref L))) (hl : s.heap.IsList L its.toArray) (hi : IntsAre its js) (hz : js.length ≤ sizeLine) (h0 : 0 ≤ i) (h1 : i < js.length) :
    wpAny (model prog w) A (call (.ref f) [.int i t]) (PySem.W.KeyPure (keyI js i) s) (fun _ _ => False) s := by
  refine wpAny_call (PySem.W.kla_callFunE hroom ho rfl rfl rfl rfl hcd ?_)
  have hb : bindArgs (PySem.W.kla_fn "<lambda>" qual (lamPar pa) (lamBody j0 kk p1 p2 p3 p4 p5 p6 p7) lamSc cl pm (.ref c') ctv) ⟨[.int i t], []⟩ = pure [((Str.ofString "at"), Value.int i t)] := rfl
  rw [hb]
  refine wpAny_pure (wpAny_newFunctionEnv (by intro x hx; simp only [lamSc, List.mem_cons, List.not_mem_nil, or_false] at hx; rcases hx with rfl | rfl <;> simp) (by intro x hx; rw [List.mem_singleton] at hx; subst hx; rfl) (fun h₁ hns hsb => ⟨lim.fresh _ hsb, ?_⟩) rfl)
  have kp : ∀ b o, s.heap.get? b = some o → h₁.get? b = some o := fun b o e => hsb.extBut b o (Nat.ne_of_lt (Heap.lt_size e)) (Heap.get?_push_of_some _ e)
  refine PySem.W.kla_codeExpr ?_
  have hn := line63
  have nat : ∀ {p : Pos} {s' : Shared} {Q : Value → Shared → Prop} {E : Value → Shared → Prop} {A' : Around} {env : Env}, env = newEnv lamSc s.heap.objs.size mainGlobals cl (qual ++ ".<locals>.") (some f) (.ref c') none builtinsNs → s'.heap.Ns s.heap.objs.size (fun x => ([((Str.ofString "at"), Value.int i t)] : List (Str × Value)).reverse.lookup x) → Q (.int i t) s' → wpAny (model prog w) A' (eval (.Name "at" p) env) Q E s' := by
    intro p s' Q E A' env he hs hq
    subst he
    exact wpAny_Name (wpAny_loadName_local rfl rfl hs rfl hq) (by decide)
  refine wpAny_Tuple_spliced ?_
  refine Calls.spliced_cons (wpAny_BinOp (wpAny_Constant_int ?_))
  refine Subscript_ (wpAny_Name (wpAny_loadName_free rfl rfl hcl (hcell.keeps kp) ?_) (by decide))
  refine nat rfl hns ?_
  refine item_list_intsR (show h₁.IsList L its.toArray from let ⟨o, e, r⟩ := hl; ⟨o, kp _ _ e, r⟩) hi h0 h1 (by omega) fun t2 => ?_
  refine sub_int ?_
  refine Calls.spliced_cons (nat rfl hns (Calls.spliced_nil ⟨?_, ?_⟩))
  · show 2 ≤ sizeLine
    decide
  · refine ⟨_, _, rfl, fun b o e => Heap.get?_push_of_some _ (kp b o e), ?_⟩
    exact .tuple (as := []) (Heap.get?_push_size _ rfl) rfl rfl (.cons (as := []) (bs := []) (.int _ _) (.cons (as := []) (bs := []) (.int _ _) .nil))
end

/-! ### the lambda is made -/
section
variable {X : Cx} {pins : List (Addr × Obj)} {σ : L2.St} {H : Hp} {s : Shared}
theorem lam_mk {c P : Addr} {params : Arguments} {body : Expr} {scope : Scope} {pos : Pos} {E : Value → Shared → Prop} {Q : Value → Shared → Prop} (I : Inv X pins σ H s) (TB : LamX.TabB X.base X.mg c P) (hcode : X.env.code = .ref c)
    (hn : nmAt pos.line pos.col = X.env.qual ++ "<lambda>") (hT : NdefX.TabN H P nmAt) (hdef : defaultsOf params X.env = ([], [])) (hfree : ∀ y ∈ scope.names, y.2 = .free → ∃ c, X.env.cells.lookup y.1 = some c)
    (h : ∀ (f c' : Addr) (pm ctv : Value) (H1 : Hp) (s' : Shared), Inv X pins σ H1 s' → Same H H1 →
      s'.heap.get? f = some (PySem.W.kla_obj "<lambda>" (X.env.qual ++ "<lambda>") params body scope (cloFrom X.env.cells scope.names []) pm c' ctv) → s'.heap.CodeRec (.ref c') (X.env.qual ++ "<lambda>") → Q (.ref f) s') :
    wpAny (model X.prog X.w) X.A (eval (.Lambda params body scope pos) X.env) Q E s := by
  obtain ⟨ps, hP, ht, ha⟩ := hT
  refine PySem.W.kla_eval hdef ?_
  have bP : s.heap.BuiltinsAt X.mg P := TB.bm.keeps I.bk
  have hP' : s.heap.get? P = some { cls := .none, data := .fields ps } := I.hok P _ hP
  cases hc : codeAmong pos ps.toList with
  | none =>
    refine PySem.W.kla_makeFunction (mg := X.mg) (c := c) (P := P) (ps := ps) (closure_ok hfree) I.ok.glob (I.mod.glob.keeps I.bk) hcode (TB.code.keeps I.bk) hP' ht hc TB.gP bP fun c' ctv h' tk hx hge hlt hrec htb => ?_
    obtain ⟨c2, oc, vs, t, e2, hoc, hd, hv⟩ := hrec
    cases e2
    have nC : H c' = none := I.hok.fresh hge
    have I1 := LamX.inv_table (t' := tk) (more := #[rawInt pos.line, rawInt pos.col, .ref c']) (h' := h'.push (PySem.W.kla_obj "<lambda>" (X.env.qual ++ "<lambda>") params body scope (cloFrom X.env.cells scope.names []) ((X.mg "__name__").getD .none) c' ctv)) I hP
      (fun b o hb e => Heap.get?_push_of_some _ (hx b o hb e)) (Heap.get?_push_of_some _ htb) hge ⟨oc, vs, t, Heap.get?_push_of_some _ hoc, hd, hv⟩
    have nPc : P ≠ c' := ne_of_none hP nC
    have hE : ∀ b o, H b = some o → (∀ ps, o ≠ .tbl ps) → upd (upd H P (.tbl (ps ++ #[rawInt pos.line, rawInt pos.col, .ref c']))) c' (LamX.CodeO c' (X.env.qual ++ "<lambda>")) b = some o := fun b o e n => by
      rw [upd_ne (ne_of_none e nC), upd_ne (fun z => n ps (Option.some.inj (e.symm.trans (by rw [z]; exact hP))))]
      exact e
    have eL : (ps ++ #[rawInt pos.line, rawInt pos.col, .ref c']).toList = ps.toList ++ [rawInt pos.line, rawInt pos.col, .ref c'] := by simp
    refine h h'.objs.size c' ((X.mg "__name__").getD .none) ctv _ _ I1 ⟨hE, fun b qs e => ?_, fun P' hT' => ?_⟩ (Heap.get?_push_size _ rfl) ⟨c', oc, vs, t, rfl, Heap.get?_push_of_some _ hoc, hd, hv⟩
    · by_cases hb : b = P
      · subst hb
        exact ⟨_, by rw [upd_ne nPc, upd_same]⟩
      · exact ⟨qs, by rw [upd_ne (ne_of_none e nC), upd_ne hb]; exact e⟩
    · by_cases hb : P' = P
      · subst hb
        refine ⟨_, by rw [upd_ne nPc, upd_same], by rw [eL]; exact PySem.TriplesOk_snoc _ _ _ _ ht, fun p' cv hcv => ?_⟩
        rw [eL] at hcv
        rcases NdefX.among_app2 _ ht hcv with z | ⟨z, z1, z2⟩
        · obtain ⟨c0, e1, e2⟩ := ha p' cv z
          exact ⟨c0, e1, hE _ _ e2 LamX.codeO_ne⟩
        · refine ⟨c', z, ?_⟩
          rw [← z1, ← z2, hn]
          exact upd_same
      · obtain ⟨ps', a1, a2, a3⟩ := hT'
        refine ⟨ps', by rw [upd_ne (ne_of_none a1 nC), upd_ne hb]; exact a1, a2, fun p' cv hcv => ?_⟩
        obtain ⟨c0, e1, e2⟩ := a3 p' cv hcv
        exact ⟨c0, e1, hE _ _ e2 LamX.codeO_ne⟩
  | some cv =>
    obtain ⟨c', e, hco⟩ := ha pos cv hc
    subst e
    rw [hn] at hco
    have cr := NdefX.codeO_at I.hok hco
    refine PySem.W.kla_makeFunctionHit (mg := X.mg) (c := c) (P := P) (ps := ps) (closure_ok hfree) I.ok.glob (I.mod.glob.keeps I.bk) hcode (TB.code.keeps I.bk) hP' ht hc bP fun ctv h' tk hx hsz => ?_
    have kp : ∀ b o, s.heap.get? b = some o → (h'.push (PySem.W.kla_obj "<lambda>" (X.env.qual ++ "<lambda>") params body scope (cloFrom X.env.cells scope.names []) ((X.mg "__name__").getD .none) c' ctv)).get? b = some o := fun b o e => Heap.get?_push_of_some _ (hx b o e)
    have I1 : Inv X pins σ H { s with heap := h'.push (PySem.W.kla_obj "<lambda>" (X.env.qual ++ "<lambda>") params body scope (cloFrom X.env.cells scope.names []) ((X.mg "__name__").getD .none) c' ctv), toks := tk } := I.kept kp
    obtain ⟨c2, oc, vs, t, e2, hoc, hd, hv⟩ := cr
    exact h h'.objs.size c' ((X.mg "__name__").getD .none) ctv H _ I1 (Same.refl _) (Heap.get?_push_size _ rfl) ⟨c2, oc, vs, t, e2, kp _ _ hoc, hd, hv⟩
end

/-! ### the sorted list -/
/-- the places, sorted by their keys -/
def srtK (js is : List Int) : List Int := is.mergeSort (PySem.W.dataLe false (keyI js))
noncomputable def gSK (o : Option (Option PyData)) : List PyData → R PyData
  | [.list es] => match o with
    | some (some (.list hs)) => match intsOf es, intsOf hs with
      | some is, some js => if (∀ i ∈ is, 0 ≤ i ∧ i < js.length) ∧ is.length ≤ szl ∧ js.length ≤ szl then .ok (.list ((srtK js is).map PyData.int)) else .no
      | _, _ => .no
    | _ => .no
  | _ => .no
noncomputable def eSortK (j : Nat) (fs : List EF) (env : List (Option PyData)) : R PyData := (aAll fs env).bind (gSK env[j]?)
theorem each_ints : ∀ {us : List Value} {ns : List Int}, IntsAre us ns → PySem.W.EachIs (fun (u : Value) (i : Int) => ∃ t, u = .int i t) us ns
  | _, _, .nil => .nil
  | _, _, .cons n t r => .cons ⟨t, rfl⟩ (each_ints r)
theorem ints_each : ∀ {us : List Value} {ns : List Int}, PySem.W.EachIs (fun (u : Value) (i : Int) => ∃ t, u = .int i t) us ns → IntsAre us ns
  | _, _, .nil => .nil
  | _, _, .cons ⟨t, e⟩ r => by subst e; exact .cons _ t (ints_each r)
theorem keys_alike (js is : List Int) : PySem.W.AllAlike (is.map (keyI js)) := by
  intro d hd e he
  obtain ⟨a, _, rfl⟩ := List.mem_map.mp hd
  obtain ⟨b, _, rfl⟩ := List.mem_map.mp he
  simp [keyI, PySem.W.alike, PySem.W.alikeAll]
theorem keys_sortable (js is : List Int) : PySem.W.Sortable (is.map (keyI js)) := by
  refine .inl fun d hd => ?_
  obtain ⟨a, _, rfl⟩ := List.mem_map.mp hd
  exact ⟨_, _, rfl⟩
section
variable {X : Cx} {ec : Nat → Addr} {W : WX} {e : Expr} {fs : List EF} {c P : Addr} {j j0 kk : Nat} {pa p1 p2 p3 p4 p5 p6 p7 lp kp p pos : Pos}
theorem se_sortK (hu : X.A.units + 70 < cLine) (hdep : X.A.depth < recursionLimit) (hg : Gl X "sorted") (hm : X.mg "sorted" = none) (TB : LamX.TabB X.base X.mg c P) (hcode : X.env.code = .ref c) (hP : P ∈ tabs) (hn : nmAt lp.line lp.col = X.env.qual ++ "<lambda>")
    (hj : X.N[j]? = some (Str.ofString "heights")) (hsc : X.env.scope.names.lookup (Str.ofString "heights") = some .cell) (hdef : defaultsOf (lamPar pa) X.env = ([], []))
    (ha : PA X [e] (tDA X.K ec W fs)) (he : starEach [e] X.env = (false, eval e X.env) :: starEach [] X.env := by rfl) :
    PE X (.Call (.Name "sorted" p) [e] [⟨some "key", .Lambda (lamPar pa) (lamBody j0 kk p1 p2 p3 p4 p5 p6 p7) lamSc lp, kp⟩] pos) (tD X.K ec W (eSortK j fs)) := by
  refine ⟨fun pins s σ H Q I ⟨G, env, sg, E, q⟩ => ?_⟩
  have hfree : ∀ y ∈ lamSc.names, y.2 = .free → ∃ c, X.env.cells.lookup y.1 = some c := fun y hy e => by
    simp only [lamSc, List.mem_cons, List.not_mem_nil, or_false] at hy
    rcases hy with rfl | rfl
    · cases e
    · exact I.ok.has _ (.inl hsc)
  refine wpAny_Call_Name_kw (ld_blt (u := .builtin "sorted") I hg hm (by decide +kernel) ?_ (by decide) (by decide))
  refine callWith_kw (thn (ha.run pos pins s σ H (fun vs H1 => ∃ ds G1, Ext G H G1 H1 ∧ RepA X.K G1 vs ds ∧ Post X.K ec W σ G1 H1 Q (gSK env[j]? ds)) I ⟨G, env, sg, E, PostL.bind q fun vs ds G1 H1 _ e1 r1 p1 => ⟨ds, G1, e1, r1, p1⟩⟩) fun us s1 ⟨vs, H1, I1, rv, ds, G1, e1, r1, p1⟩ => ?_) (by rw [he]; rfl) (by rw [he]; rfl)
  refine wpAny_evalAll_cons (wpAny_bind (lam_mk I1 TB hcode hn (e1.i.tx P (E.tb.mono e1.g P hP)) hdef hfree fun f c' pm ctv H2 s2 I2 sm hf hcr => wpAny_bind (wpAny_standAt (wpAny_pure (wpAny_evalAll_nil ?_)))))
  unfold gSK at p1
  split at p1
  · rename_i es
    split at p1
    · rename_i hs ej
      split at p1
      · rename_i is js hes hhs
        split at p1
        · rename_i hc
          obtain ⟨hin, hz1, hz2⟩ := hc
          rw [intsOf_eq hes] at r1
          cases r1 with
          | cons ra rb =>
            cases rb
            cases ra with
            | @lst a xs _ hl rx =>
              have ex := rx.ints
              subst ex
              obtain ⟨v, hσ, rh⟩ := E.at' j _ ej
              rw [intsOf_eq hhs] at rh
              cases rh with
              | @lst L ys _ hL ry =>
                have ey := ry.ints
                subst ey
                have sH : Same G1 H2 := e1.i.trans sm
                obtain ⟨its, rv2, pl, _⟩ := I2.list (ls_same sH hl).sq
                obtain ⟨jts, rj, plj, _⟩ := I2.list (ls_same (e1.g.trans sH) hL).sq
                obtain ⟨m, hn', hl'⟩ := I2.loc
                obtain ⟨u, ru, lu⟩ := hl' j _ _ hj hσ (.inr (.inl hsc))
                cases (show u = Value.ref L from ru)
                rcases lu with ⟨hk, _⟩ | ⟨hk, cc, hcc, hcell⟩
                · have hk' : X.env.scope.names.lookup (Str.ofString "heights") = some .local := hk
                  rw [hsc] at hk'
                  cases hk'
                · have hclo : (cloFrom X.env.cells lamSc.names []).lookup (Str.ofString "heights") = some cc := NdefX.clo_has hfree (by simp [lamSc]) hcc
                  have hus := Vals.ref1 rv
                  subst hus
                  have e0 := I2.env0
                  have lim : s2.heap.NoLimit := e0.mod.nolimit.keeps fun b o e => (e0.bs b o e).1
                  show wpAny _ _ (call (.builtin "sorted") [.ref a] [(Str.ofString "key", .ref f)]) _ _ _
                  refine PySem.W.sorted_key_data (k := keyI js) (R := fun (u : Value) (i : Int) => ∃ t, u = .int i t) (bs := is) (b := false) (f := .ref f) pl.isList (each_ints (Vals.ints rv2)) (keys_alike js is) (keys_sortable js is) (szl_line hz1) (fun i _ => ?_) (PyProof.Rows.ksk_s1 _ _) (fun x => PyProof.Rows.ksk_l1 _ _) (fun x => PyProof.Rows.ksk_t1 _ _) (fun v i ⟨t, ev⟩ hi h tk kp' => ?_) fun out c h' tk kp' hno hD hlen he' => ?_
                  · have : (keyI js i).depth ≤ 2 := by simp [keyI, PyData.depth, PyData.depthAll]
                    omega
                  · subst ev
                    obtain ⟨c2, oc, vs, t3, e2, hoc, hd, hv⟩ := hcr
                    exact key_call (s := { s2 with heap := h, toks := tk }) hdep (lim.keeps kp') (kp' _ _ hf) ⟨c2, oc, vs, t3, e2, kp' _ _ hoc, hd, hv⟩ hclo (hcell.keeps kp') (show h.IsList L jts.toArray from let ⟨o, e, r⟩ := plj.isList; ⟨o, kp' _ _ e, r⟩) (Vals.ints rj) (szl_line hz2) (hin i hi).1 (hin i hi).2
                  · have hle : ((srtK js is).map V.int).length ≤ sizeLine := by rw [List.length_map]; unfold srtK; rw [List.length_mergeSort]; exact szl_line hz1
                    have hfr : H2 (s2.heap.objs.size + 1) = none := I2.hok.fresh (Nat.le_succ _)
                    have hi' : Ext G1 H1 G1 H2 := Ext.heap e1.i sm
                    exact ⟨.ref _, upd H2 (s2.heap.objs.size + 1) (.lst ((srtK js is).map V.int)), I2.laid (t' := tk) kp' (Nat.le_succ _) ⟨hle, out, c, vals_of_ints (ints_each he'), hD⟩, rfl, p1 _ _ _ (hi'.trans (Ext.new sH hfr)) (ext_list sH hfr (repA_ints _))⟩
        · exact p1.elim
      · exact p1.elim
    · exact p1.elim
  · exact p1.elim
end
end PL
/-! PL, part o: list(range(n)); a def whose code object is known. -/
namespace PL
open PySem PySem.Spec PyProof.Rows L2
noncomputable def dLstRg (x : PyData) : R PyData := match x with
  | .int n => if -lim < n ∧ n.toNat ≤ szl then .ok (.list (rngF 0 n.toNat)) else .no
  | _ => .no
theorem rgV_rep {K : PySem.W.Frag} {G : Hp} (n : Int) : RepA K G (rgV 0 n) (rngF 0 n.toNat) := by
  unfold rgV rngF
  rw [Int.sub_zero]
  generalize List.range n.toNat = l
  induction l with
  | nil => exact .nil
  | cons i l ih => exact .cons (.int _) ih
section
variable {X : Cx} {ec : Nat → Addr} {W : WX} {e : Expr} {f : EF} {p p2 pos pos2 : Pos}
theorem se_listRg (hc : X.calm = true) (hg : Gl X "list") (hm : X.mg "list" = none) (hg2 : Gl X "range") (hm2 : X.mg "range" = none) (ha : PE X e (tD X.K ec W f)) (na : starEach [e] X.env = (false, eval e X.env) :: starEach [] X.env := by rfl)
    (nb : starEach [.Call (.Name "range" p2) [e] [] pos2] X.env = (false, eval (.Call (.Name "range" p2) [e] [] pos2) X.env) :: starEach [] X.env := by rfl) :
    PE X (.Call (.Name "list" p) [.Call (.Name "range" p2) [e] [] pos2] [] pos) (tD X.K ec W (eUn dLstRg f)) :=
  PE_imp (pe_listRg hc hg hm (prg_1 hg2 hm2 ha na) nb) fun σ H Q ⟨G, env, s, E, p⟩ => ⟨G, env, s, E, Post.bind p fun v d G1 H1 qz e1 r1 p1 => by
    clear qz
    unfold dLstRg at p1
    split at p1
    · rename_i n
      split at p1
      · rename_i hn
        cases r1
        have hl := lim_eq
        have hs := szl_eq
        exact ⟨n, rfl, ⟨by omega, by omega, by omega, by omega, by omega⟩, fun q nq => p1 _ _ _ (Ext.new e1.i nq) (ext_list e1.i nq (rgV_rep n))⟩
      · exact p1.elim
    · exact p1.elim⟩
end
theorem units70 {k : Nat} {A : Around} (r : Room k A) : A.units + 70 < cLine := by have := r.un; omega
section
variable {P : Program} {w : World} {K : PySem.W.Frag} {mg : Str → Option Value} {base : Heap}
theorem fn_pureC {ec : Nat → Addr} {x qual : Str} {st : Stmt} {f : Addr} {fd : FuncData} {N ps : List Str} {k n : Nat} {fb : SF} (F : Fun K x qual st f fd) (S : FnScope N ps (defScope st)) (hn : ps.length = n)
    (hbody : ∀ (A : Around) (outer : List Env) (s : Shared) (G0 H : Hp) (E : XK), Same G0 H → Room k (A.deeper (envOfC qual (defScope st) s.heap.objs.size f fd.code)) →
      PSs (cxOf (L2N.CX P w) P w K mg base N qual (defScope st) f fd.code A outer s H E) (defBody st) (tDS K ec (fun cls d _ H => E cls d H) G0 H fb)) :
    FnOk P w K mg base (L2N.CX P w) (k + 1) f fd ps (spP K ec n (runB N.length fb)) := by
  obtain ⟨oc, od, kV, doc, pm, an, cdv, ct, osl, rfl, lk, hcd⟩ := F.ex
  refine fn_of lk hcd S (fun vs H Q E h => by rw [h.1, hn]) fun A outer s H vs Q E hr h => ?_
  obtain ⟨hl, G, ds, t, i, r, p⟩ := h
  refine ⟨_, hbody A outer s G H E i hr, G, _, start_ok t i r, ?_⟩
  unfold runB at p
  cases q : fb (entry N.length ds) with
  | nx e => rw [q] at p; exact fun σ' G' H' g S' => p _ G' H' S'.x .non
  | rt d => rw [q] at p; exact p
  | ex c => rw [q] at p; exact fun _ H' s => p H' s
  | bk e => rw [q] at p; exact p.elim
  | ct e => rw [q] at p; exact p.elim
  | no => rw [q] at p; exact p.elim
end
end PL
/-! PL, part p: objects with one number; methods that change it. -/
namespace PL
open PySem PySem.Spec PyProof.Rows L2
def del (H : Hp) (l : Addr) : Hp := fun b => if b = l then none else H b
theorem del_ne {H : Hp} {l b : Addr} (h : b ≠ l) : del H l b = H b := if_neg h
theorem del_same {H : Hp} {l : Addr} : del H l l = none := if_pos rfl
/-- what lies apart from an instance stays when it is left out -/
theorem same_del {G H : Hp} {l C dx : Addr} {fs : List (Str × V)} (e : Same G H) (n : G l = none) (hl : H l = some (.ins C dx fs)) : Same G (del H l) := by
  have ne : ∀ b u, G b = some u → b ≠ l := fun b u q z => by rw [z, n] at q; cases q
  refine ⟨fun b o q k => by rw [del_ne (ne b o q)]; exact e.ap b o q k, fun b ps q => ?_, fun P t => ?_⟩
  · rw [del_ne (ne b _ q)]; exact e.tb b ps q
  · obtain ⟨ps, h1, h2, h3⟩ := e.tx P t
    have nP : P ≠ l := fun z => by subst z; rw [hl] at h1; cases h1
    refine ⟨ps, by rw [del_ne nP]; exact h1, h2, fun pos cv hc => ?_⟩
    obtain ⟨c, e1, e2⟩ := h3 pos cv hc
    have nc : c ≠ l := fun z => by subst z; rw [hl] at e2; unfold LamX.CodeO at e2; cases e2
    exact ⟨c, e1, by rw [del_ne nc]; exact e2⟩
def PostOb (K : PySem.W.Frag) (ec : Nat → Addr) (G H : Hp) (l : Addr) (Q : VK) (E : XK) : R PyData → Prop
  | .ok d => ∀ G' H', Ext G (del H l) G' H' → G' l = none → ObjN K H' l d → Q .non H'
  | .ex c => ∀ H', Same (del H l) H' → E (.ref (ec c)) none H'
  | .no => False
/-- the promise of a method that tells nothing: what it does to its object's number -/
def spO (K : PySem.W.Frag) (ec : Nat → Addr) (n : Nat) (g : PyData → List PyData → R PyData) : Sp := fun vs H Q E => vs.length = n ∧ ∃ (l : Addr) (ws : List V) (G : Hp) (d : PyData) (ds : List PyData), vs = .ref l :: ws ∧ Tbs G ∧ G l = none ∧ Same G H ∧ ObjN K H l d ∧ RepA K G ws ds ∧ PostOb K ec G H l Q E (g d ds)
structure CalM (P : Program) (w : World) (K : PySem.W.Frag) (mg : Str → Option Value) (base : Heap) (ec : Nat → Addr) (cn m : Str) (n k : Nat) (g : PyData → List PyData → R PyData) : Prop where
  ex : ∃ (C f : Addr) (fd : FuncData) (ps : List Str), PySem.W.nsIn K mainGlobals cn = some (some (.ref C)) ∧ Cls K C ∧ Meth K C m f ∧ FnOk P w K mg base (L2N.CX P w) k f fd ps (spO K ec n g) ∧ Binds K fd ps []
theorem CalM.mono {P : Program} {w : World} {K : PySem.W.Frag} {mg : Str → Option Value} {base : Heap} {ec : Nat → Addr} {cn m : Str} {n j k : Nat} {g : PyData → List PyData → R PyData} (c : CalM P w K mg base ec cn m n j g) (h : j ≤ k) : CalM P w K mg base ec cn m n k g := by
  obtain ⟨C, f, fd, ps, a1, a2, a3, F, hb⟩ := c.ex
  exact ⟨C, f, fd, ps, a1, a2, a3, F.mono h, hb⟩
section
variable {X : Cx} {CX : CXT} {k : Nat} {f C : Addr} {fd : FuncData} {ps : List Str} {sp : Sp} {E : L2.St → XK} {m : Str} {pos apos : Pos} {e o : Expr} {es : List Expr} {ta : TE} {t : TA}
def tMethW (C : Addr) (m : Str) (sp : Sp) (E : L2.St → XK) (ta : TE) (t : TA) : TE := fun σ H Q => ta σ H fun x H1 => ∃ a dx fs, x = .ref a ∧ H1 a = some (.ins C dx fs) ∧ fs.lookup m = none ∧ t σ H1 fun vs H2 => sp (x :: vs) H2 Q (E σ)
theorem pe_methW {pl : Sem Bool} (he : PE X o ta) (c : Cls X.K C) (hm : Meth X.K C m f) (F : FnOk X.prog X.w X.K X.mg X.base CX k f fd ps sp) (hr : Room k X.A) (hb : Binds X.K fd ps []) (hx : ∀ σ, PassesAt CX X σ (E σ)) (ha : PA X (e :: es) t)
    (hst : starEach (e :: es) X.env = (false, eval e X.env) :: starEach es X.env := by rfl) (hpl : (backTo pos (starEach es X.env)).any (·.1) = false := by rfl)
    (ht : eval (.Call (.Attribute o m apos) (e :: es) [] pos) X.env = (do
      let ov ← eval o X.env
      standAt apos.atName
      let (f, first) ← holding [ov] (getMethod ov m pl)
      callWith pos f first (backTo pos (starEach (e :: es) X.env)) (backToKw pos (keywordEach [] X.env))) := by rfl) :
    PE X (.Call (.Attribute o m apos) (e :: es) [] pos) (tMethW C m sp E ta t) := by
  refine ⟨fun pins s σ H Q I h => ?_⟩
  refine PySem.W.methodCall_KW (pl := pl) (thn (he.run pins s σ H _ I h) fun u s1 ⟨x, H1, I1, rx, a, dx, fs, ex, ea, l, q⟩ => ?_) ht
  subst ex
  obtain rfl : u = Value.ref a := rx
  refine getmeth_ok I1 ea c hm l ?_
  refine PySem.W.callWith_K (first := [.ref a]) (h₀ := X.base) I.ok.mod.kin hm.kp (thn (ha.run pos pins s1 σ H1 _ I1 q) fun us s2 ⟨vs, H2, I2, r, q2⟩ => ⟨I2.kIn, ?_⟩) hst hpl
  exact run_fnS (us := .ref a :: us) (vs := .ref a :: vs) F hr hb (hx σ) I2 (.cons rfl r) q2
end
/-- self.m(..) as a statement -/
noncomputable def sMeth (i : Nat) (cn : Str) (g : PyData → List PyData → R PyData) (fs : List EF) (env : Ev) : Out := match env[i]? with
  | some (.ob (.tuple [.str c, .int n, .int a])) => if c = cn then (aAll fs (env.map Sl.pur)).outL fun ds => (g (.tuple [.str c, .int n, .int a]) ds).out fun d => .nx (env.set i (.ob d)) else .no
  | _ => .no
/-- the object's number is another one -/
theorem StR.setB {K : PySem.W.Frag} {G0 H0 G H G' H' : Hp} {σ : L2.St} {env : Ev} {i : Nat} {l : Addr} {d d' : PyData} (S : StR K G0 H0 G H σ env) (q : env[i]? = some (.ob d)) (hs : σ[i]? = some (some (.ref l))) (hl : ∃ C dx fs, H l = some (.ins C dx fs)) (e : Ext G (del H l) G' H') (gl : G' l = none) (o : ObjN K H' l d') : StR K G0 H0 G' H' σ (env.set i (.ob d')) := by
  obtain ⟨l', h1, h2, h3, h4⟩ := S.ob.at' i d q
  rw [hs] at h1
  cases h1
  obtain ⟨C, dx, fs, hC⟩ := hl
  have hi : i < env.length := (List.getElem?_eq_some_iff.mp q).1
  refine ⟨S.tb, ⟨S.x.g.trans e.g, (same_del S.x.h h3 hC).trans e.h, e.i, fun b b1 b2 => ?_⟩, by simpa using S.len, fun j d1 p => ?_, fun j d1 p => ?_, fun j k d1 d2 m hjk q1 q2 e1 e2 => ?_, fun j k d1 d2 p1 p2 => ?_, fun j d1 p => ?_⟩
  · have nb : b ≠ l := fun z => by subst z; exact b1 gl
    cases z : G b with
    | none =>
      have := e.f b b1 z
      rw [del_ne nb] at this
      exact S.x.h.free this
    | some u => exact S.x.f b (by rw [z]; simp) b2
  · rcases get_set p with ⟨rfl, z⟩ | ⟨hj, p⟩
    · cases z
    · obtain ⟨v, a1, a2⟩ := S.pu j d1 p
      exact ⟨v, a1, a2.mono e.g⟩
  · rcases get_set p with ⟨rfl, z⟩ | ⟨hj, p⟩
    · cases z
    · obtain ⟨m, a1, a2, a3, a4⟩ := S.ow j d1 p
      obtain ⟨u, hu, hk⟩ := a4.kind
      have nm : m ≠ l := fun z => by
        subst z
        rw [hC] at hu
        cases hu
        rcases hk with ⟨_, z⟩ | ⟨_, z⟩ | ⟨_, _, z⟩ <;> first | cases z | (unfold DnO at z; cases z)
      have hu' : del H l m = some u := by rw [del_ne nm]; exact hu
      exact ⟨m, a1, e.clean a2 hu', a3, a4.mono e.g fun o' ho t => e.h.ap m o' (by rw [del_ne nm]; exact ho) t.1⟩
  · have f : ∀ {j : Nat} {d1 : PyData}, (env.set i (Sl.ob d'))[j]? = some (Sl.ow d1) → env[j]? = some (Sl.ow d1) := fun {j d1} p => by
      rcases get_set p with ⟨_, z⟩ | ⟨_, p⟩
      · cases z
      · exact p
    exact S.dj j k d1 d2 m hjk (f q1) (f q2) e1 e2
  · have f : ∀ {j : Nat} {d1 : PyData}, (env.set i (Sl.ob d'))[j]? = some (Sl.ob d1) → ∃ d2, env[j]? = some (Sl.ob d2) := fun {j d1} p => by
      rcases get_set p with ⟨rfl, _⟩ | ⟨_, p⟩
      · exact ⟨d, q⟩
      · exact ⟨d1, p⟩
    obtain ⟨_, p1⟩ := f p1
    obtain ⟨_, p2⟩ := f p2
    exact S.ob.one j k _ _ p1 p2
  · rcases get_set p with ⟨rfl, z⟩ | ⟨hj, p⟩
    · cases z
      exact ⟨l, hs, gl, h3, o⟩
    · exact absurd (S.ob.one j i _ _ p q) hj
section
variable {X : Cx} {ec : Nat → Addr} {W : WX} {G0 H0 : Hp} {i k n : Nat} {x cn m : Str} {g : PyData → List PyData → R PyData} {e : Expr} {es : List Expr} {fs : List EF} {p1 apos cpos pos : Pos}
theorem ss_mcall (M : CalM X.prog X.w X.K X.mg X.base ec cn m n k g) (tk : L2N.Takes X W) (hr : Room k X.A) (ha : PA X (e :: es) (tDA X.K ec W fs)) (hn : fs.length + 1 = n := by rfl) (hmany : (m == (Str.ofString "many")) = false := by decide) (hi : X.N[i]? = some x := by rfl) (hv : Vis X.env.scope x := by first | exact Or.inl rfl | exact Or.inr (Or.inl rfl) | exact Or.inr (Or.inr rfl)) (hd : (x == ("__debug__" : Str)) = false := by decide) (hcd : (x == ("__classdict__" : Str)) = false := by decide)
    (hst : starEach (e :: es) X.env = (false, eval e X.env) :: starEach es X.env := by rfl) (hpl : (backTo cpos (starEach es X.env)).any (·.1) = false := by rfl) {pl : Sem Bool}
    (ht : eval (.Call (.Attribute (.Name x p1) m apos) (e :: es) [] cpos) X.env = (do
      let ov ← eval (.Name x p1) X.env
      standAt apos.atName
      let (f, first) ← holding [ov] (getMethod ov m pl)
      callWith cpos f first (backTo cpos (starEach (e :: es) X.env)) (backToKw cpos (keywordEach [] X.env))) := by rfl)
    (hs : swapsWith (.Call (.Attribute (.Name x p1) m apos) (e :: es) [] cpos) none pos.line X.env = pure false := by rfl) :
    PS X (.Expr (.Call (.Attribute (.Name x p1) m apos) (e :: es) [] cpos) pos) (tDS X.K ec W G0 H0 (sMeth i cn g fs)) := by
  obtain ⟨C, f, fd, ps, hC, c, hm, F, hb⟩ := M.ex
  refine PS_imp (ps_expr (pe_methW (E := WE W) (pl := pl) (pe_var (pos := p1) hi hv hd hcd) c hm F hr hb (fun σ => L2N.passAt tk σ) ha hst hpl ht) hs) fun D σ H ⟨G, env, S, p⟩ => ?_
  unfold sMeth at p
  split at p
  · rename_i c0 n0 a0 q
    split at p
    · rename_i ec0
      subst ec0
      obtain ⟨l, h1, h2, h3, h4⟩ := S.ob.at' i _ q
      have h4' := h4
      obtain ⟨cn', n', C', dx, ed, hC', hl, hdx⟩ := h4'
      injection ed with ed
      injection ed with ed1 ed2
      injection ed1 with ed1
      subst ed1
      rw [hC] at hC'
      cases hC'
      refine ⟨.ref l, h1, l, dx, _, rfl, hl, by simp [List.lookup, hmany], G, _, S.x.i, S.envP, ?_⟩
      cases qa : aAll fs (env.map Sl.pur) with
      | no => rw [qa] at p; exact p.elim
      | ex c => rw [qa] at p; exact fun H' s => p σ H' (S.x.h.trans s)
      | ok ds =>
        rw [qa] at p
        intro vs G1 H1 e1 r1
        have S1 := S.grow e1
        obtain ⟨l1, k1, k2, k3, k4⟩ := S1.ob.at' i _ q
        rw [h1] at k1
        cases k1
        have hl1 : ∃ C dx fs, H1 l = some (.ins C dx fs) := ⟨_, _, _, e1.h.ap _ _ hl fun _ z => by cases z⟩
        refine ⟨by simp [r1.length, aAll_len qa, hn], l, vs, G1, _, ds, rfl, (S1.tb.mono S1.x.g), k2, e1.i, k4, r1, ?_⟩
        have p : PostS X.K ec W G0 H0 G D ((g (.tuple [.str c0, .int n0, .int a0]) ds).out fun d => .nx (env.set i (.ob d))) := p
        cases qg : g (.tuple [.str c0, .int n0, .int a0]) ds with
        | no => rw [qg] at p; exact p.elim
        | ex c =>
          rw [qg] at p
          intro H' s
          obtain ⟨C2, dx2, fs2, hl2⟩ := hl1
          exact p σ H' ((same_del S1.x.h k3 hl2).trans s)
        | ok d =>
          rw [qg] at p
          intro G' H' e2 gl o
          exact p σ G' H' (e1.g.trans e2.g) (S1.setB q h1 hl1 e2 gl o)
    · exact p.elim
  · exact p.elim
end
/-! ### a method by its body -/
def entryO (n : Nat) (d : PyData) (ds : List PyData) : Ev := .ob d :: entry (n - 1) ds
/-- the object's address -/
def adr : PyData → Int
  | .tuple [_, _, .int a] => a
  | _ => 0
def runO (n : Nat) (f : SF) (d : PyData) (ds : List PyData) : R PyData := match f (entryO n d ds) with
  | .nx e => match e[0]? with
    | some (Sl.ob d') => if adr d' = adr d then .ok d' else .no
    | _ => .no
  | .ex c => .ex c
  | _ => .no
theorem start_ob {K : PySem.W.Frag} {N : List Str} {l : Addr} {vs : List V} {ds : List PyData} {G H : Hp} {d : PyData} (hN : 1 ≤ N.length) (t : Tbs G) (i : Same G H) (gl : G l = none) (o : ObjN K H l d) (r : RepA K G vs ds) : StR K G (del H l) G H (start N (.ref l :: vs)) (entryO N.length d ds) := by
  have hl := r.length
  obtain ⟨_, _, C, dx, _, _, ho, _⟩ := id o
  have key : ∀ (j : Nat) (s : Sl), (entryO N.length d ds)[j]? = some s → (j = 0 ∧ s = .ob d) ∨ (∃ k d', j = k + 1 ∧ s = .pu d' ∧ ds[k]? = some d') ∨ s = .no := fun j s q => by
    unfold entryO at q
    cases j with
    | zero => simp at q; exact .inl ⟨rfl, q.symm⟩
    | succ j =>
      rw [List.getElem?_cons_succ] at q
      unfold entry at q
      by_cases hj : j < ds.length
      · rw [List.getElem?_append_left (by simpa using hj), List.getElem?_map] at q
        cases e : ds[j]? with
        | none => rw [e] at q; cases q
        | some d => rw [e] at q; cases q; exact .inr (.inl ⟨j, d, rfl, rfl, e⟩)
      · rw [List.getElem?_append_right (by simpa using hj), List.getElem?_replicate] at q
        split at q
        · cases q; exact .inr (.inr rfl)
        · cases q
  have s0 : (start N (.ref l :: vs))[0]? = some (some (.ref l)) := by unfold L2.start; simp
  refine ⟨t, ⟨Same.refl _, ?_, i, fun b h1 h2 => absurd h2 h1⟩, by unfold L2.start entryO entry; simp [hl]; omega, fun j d' q => ?_, fun j d' q => ?_, fun j k d1 d2 m _ q => ?_, fun j k d1 d2 q1 q2 => ?_, fun j d' q => ?_⟩
  · refine ⟨fun b u e _ => ?_, fun b ps e => ⟨ps, ?_⟩, fun P tb => tb.ext fun b u e => ?_⟩
    all_goals
      by_cases hb : b = l
      · rw [hb, del_same] at e; cases e
      · rwa [del_ne hb] at e
  · rcases key j _ q with ⟨_, e⟩ | ⟨k, d2, rfl, e, q'⟩ | e
    · cases e
    · cases e
      obtain ⟨v, hv, rv⟩ := r.get q'
      refine ⟨v, ?_, rv⟩
      have hj : k < vs.length := (List.getElem?_eq_some_iff.mp hv).1
      unfold L2.start
      rw [List.getElem?_append_left (by simpa using hj), List.getElem?_map, List.getElem?_cons_succ, hv]
      rfl
    · cases e
  · rcases key j _ q with ⟨_, e⟩ | ⟨k, d2, rfl, e, q'⟩ | e <;> cases e
  · rcases key j _ q with ⟨_, e⟩ | ⟨k, d2, rfl, e, q'⟩ | e <;> cases e
  · have f : ∀ {j : Nat} {d1 : PyData}, (entryO N.length d ds)[j]? = some (.ob d1) → j = 0 := fun {j d1} q => by
      rcases key j _ q with ⟨h, _⟩ | ⟨k, d2, rfl, e, q'⟩ | e
      · exact h
      · cases e
      · cases e
    rw [f q1, f q2]
  · rcases key j _ q with ⟨rfl, e⟩ | ⟨k, d2, rfl, e, q'⟩ | e
    · cases e
      exact ⟨l, s0, gl, del_same, o⟩
    · cases e
    · cases e
section
variable {P : Program} {w : World} {K : PySem.W.Frag} {mg : Str → Option Value} {base : Heap}
theorem fn_ob {ec : Nat → Addr} {x qual : Str} {st : Stmt} {f : Addr} {fd : FuncData} {N ps : List Str} {k n : Nat} {fb : SF} (F : Fun K x qual st f fd) (S : FnScope N ps (defScope st)) (hn : ps.length = n) (hN : 1 ≤ N.length)
    (hbody : ∀ (cdv : Value) (A : Around) (outer : List Env) (s : Shared) (G0 H H0 : Hp) (E : XK), Room k (A.deeper (envOfC qual (defScope st) s.heap.objs.size f cdv)) →
      PSs (cxOf (L2N.CX P w) P w K mg base N qual (defScope st) f cdv A outer s H E) (defBody st) (tDS K ec (fun cls d _ H => E cls d H) G0 H0 fb)) :
    FnOk P w K mg base (L2N.CX P w) (k + 1) f fd ps (spO K ec n (runO N.length fb)) := by
  obtain ⟨oc, od, kV, doc, pm, an, cdv, ct, osl, rfl, lk, hcd⟩ := F.ex
  refine fn_of lk hcd S (fun vs H Q E h => by rw [h.1, hn]) fun A outer s H vs Q E hr h => ?_
  obtain ⟨hl, l, ws, G, d, ds, rfl, t, gl, i, o, r, p⟩ := h
  refine ⟨_, hbody cdv A outer s G H (del H l) E hr, G, _, start_ob hN t i gl o r, ?_⟩
  have s0 : (start N (V.ref l :: ws))[0]? = some (some (.ref l)) := by unfold L2.start; simp
  unfold runO at p
  cases q : fb (entryO N.length d ds) with
  | nx e =>
    rw [q] at p
    intro σ' G' H' g S'
    dsimp only at p
    split at p
    · rename_i d' hd
      obtain ⟨l', a1, a2, a3, a4⟩ := S'.ob.at' 0 _ hd
      split at p
      · rename_i ha
        obtain ⟨_, _, _, _, ed, _⟩ := id a4
        obtain ⟨_, _, _, _, ed0, _⟩ := id o
        rw [ed, ed0] at ha
        have hll : l' = l := by
          exact Int.ofNat.inj (show Int.ofNat l' = Int.ofNat l from ha)
        subst hll
        exact p G' H' S'.x a2 a4
      · exact p.elim
    · exact p.elim
  | rt d => rw [q] at p; exact p.elim
  | ex c => rw [q] at p; exact fun _ H' s => p H' s
  | bk e => rw [q] at p; exact p.elim
  | ct e => rw [q] at p; exact p.elim
  | no => rw [q] at p; exact p.elim
end
end PL
/-! PL, part q: a counter's own methods: made with 0, one more. -/
namespace PL
open PySem PySem.Spec PyProof.Rows L2
/-- what is known of the counter's class -/
structure CntC (K : PySem.W.Frag) (cn : Str) : Prop where
  ex : ∃ C, PySem.W.nsIn K mainGlobals cn = some (some (.ref C)) ∧ Cls K C ∧ NoAttr K C "many"
/-- many = many + 1, and need(many <= a and deep <= b) -/
noncomputable def gEnter (cn : Str) (a b : Int) (g : PyData → List PyData → R PyData) (d : PyData) (ds : List PyData) : R PyData := match d, ds with
  | .tuple [.str c, .int n, .int l], [.int deep] => if c = cn then g (.tuple [.str c, .int (n + 1), .int l]) [.bool (decide (n + 1 ≤ a) && decide (deep ≤ b))] else .no
  | _, _ => .no
section
variable {P : Program} {w : World} {K : PySem.W.Frag} {mg : Str → Option Value} {base : Heap}
theorem upd_own {H : Hp} {l dx C : Addr} {n m : Int} (h1 : H l = some (.ins C dx [(Str.ofString "many", V.int n)])) (h2 : H dx = some (.own l)) : upd H l (.ins C dx (putF (Str.ofString "many") (V.int m) [(Str.ofString "many", V.int n)])) l = some (.ins C dx [(Str.ofString "many", V.int m)]) ∧ upd H l (.ins C dx (putF (Str.ofString "many") (V.int m) [(Str.ofString "many", V.int n)])) dx = some (.own l) := by
  refine ⟨by rw [upd_same]; simp [putF], ?_⟩
  rw [upd_ne (fun z => by rw [z, h1] at h2; cases h2)]
  exact h2
theorem del_upd {H : Hp} {l : Addr} {o : HO} : del (upd H l o) l = del H l := by
  funext b
  unfold del
  by_cases h : b = l
  · rw [if_pos h, if_pos h]
  · rw [if_neg h, if_neg h, upd_ne h]
theorem fn_enter {ec : Nat → Addr} {cn qual : Str} {st : Stmt} {f : Addr} {fd : FuncData} {k : Nat} {a b : Int} {x y : Str} {t1 t2 : Tok} {g : PyData → List PyData → R PyData} (F : Fun K "enter" qual st f fd) (S : FnScope ["self", "deep"] ["self", "deep"] (defScope st)) (Cc : CntC K cn)
    (M : CalM P w K mg base ec cn "need" 2 k g) (hm1 : mg x = some (.int a t1)) (hm2 : mg y = some (.int b t2))
    (hbody : ∀ (C fn : Addr) (fdn : FuncData) (psn : List Str) (cdv : Value) (A : Around) (outer : List Env) (s : Shared) (H : Hp) (E : XK), Cls K C → Meth K C "need" fn → FnOk P w K mg base (L2N.CX P w) k fn fdn psn (spO K ec 2 g) → Binds K fdn psn [] → Room k (A.deeper (envOfC qual (defScope st) s.heap.objs.size f cdv)) →
      PSs (cxOf (L2N.CX P w) P w K mg base ["self", "deep"] qual (defScope st) f cdv A outer s H E) (defBody st)
        (tSeq (sFld K (tVar 0) (tAdd (tFld K (tVar 0) "many") (tC (.int 1))) "many") (tDrop (tMethW C "need" (spO K ec 2 g) (WE (fun cls d _ H => E cls d H)) (tVar 0) (tCons (tAndV (tOp (rI0 fun i j => .bl (decide (i ≤ j))) (tFld K (tVar 0) "many") (tC (.int a))) (tOp (rI0 fun i j => .bl (decide (i ≤ j))) (tVar 1) (tC (.int b)))) tNil))))) :
    FnOk P w K mg base (L2N.CX P w) (k + 1) f fd ["self", "deep"] (spO K ec 2 (gEnter cn a b g)) := by
  obtain ⟨C, fn, fdn, psn, hC, c, hm, Fn, hb⟩ := M.ex
  obtain ⟨C', hC', _, na⟩ := Cc.ex
  rw [hC] at hC'
  cases hC'
  obtain ⟨oc, od, kV, doc, pm, an, cdv, ct, osl, rfl, lk, hcd⟩ := F.ex
  refine fn_of lk hcd S (fun vs H Q E h => by rw [h.1]; rfl) fun A outer s H vs Q E hr h => ?_
  obtain ⟨hl, l, ws, G, d, ds, rfl, t, gl, i, o, r, p⟩ := h
  refine ⟨_, hbody C fn fdn psn cdv A outer s H E c hm Fn hb hr, ?_⟩
  obtain ⟨c0, n, C0, dx, rfl, hC0, h1, h2⟩ := o
  unfold gEnter at p
  split at p
  · rename_i c1 n1 l1 deep ed
    injection ed with ed
    injection ed with ed1 ed2
    injection ed2 with ed2 ed3
    injection ed3 with ed3 _
    injection ed1 with ed1
    injection ed2 with ed2
    subst ed1
    subst ed2
    split at p
    · rename_i ecn
      subst ecn
      rw [hC] at hC0
      cases hC0
      cases r with
      | cons rd rr =>
        cases rr
        cases rd
        have s0 : (start [Str.ofString "self", Str.ofString "deep"] [V.ref l, V.int deep])[0]? = some (some (V.ref l)) := rfl
        have s1 : (start [Str.ofString "self", Str.ofString "deep"] [V.ref l, V.int deep])[1]? = some (some (V.int deep)) := rfl
        obtain ⟨u1, u2⟩ := upd_own (m := n + 1) h1 h2
        have dl : del (upd H l (.ins C dx (putF (Str.ofString "many") (V.int (n + 1)) [(Str.ofString "many", V.int n)]))) l = del H l := del_upd
        have sm : Same G (upd H l (.ins C dx (putF (Str.ofString "many") (V.int (n + 1)) [(Str.ofString "many", V.int n)]))) := same_put i gl h1 ⟨(fun _ z => by cases z), (fun _ _ z => by unfold LamX.CodeO at z; cases z)⟩
        refine ⟨V.ref l, s0, l, C, dx, _, V.int n, rfl, h1, c, na, by simp [List.lookup], n, 1, rfl, rfl, V.ref l, s0, l, C, dx, _, rfl, h1, c, na, by simp, ?_⟩
        have ob : ObjN K (upd H l (.ins C dx (putF (Str.ofString "many") (V.int (n + 1)) [(Str.ofString "many", V.int n)]))) l (.tuple [.str c0, .int (n + 1), .int (l : Int)]) := ⟨c0, n + 1, C, dx, rfl, hC, u1, u2⟩
        generalize upd H l (.ins C dx (putF (Str.ofString "many") (V.int (n + 1)) [(Str.ofString "many", V.int n)])) = H2 at *
        refine ⟨V.ref l, s0, l, dx, _, rfl, u1, by simp [List.lookup, show ((Str.ofString "need") == (Str.ofString "many")) = false by decide], V.ref l, s0, l, C, dx, _, V.int (n + 1), rfl, u1, c, na, by simp [List.lookup], n + 1, a, rfl, rfl, decide (n + 1 ≤ a), rfl, ?_⟩
        have fin : ∀ q : Bool, (decide (n + 1 ≤ a) && decide (deep ≤ b)) = q → spO K ec 2 g [V.ref l, V.bl q] H2 (fun _ H1 => Q .non H1) E := fun q hq => by
          rw [hq] at p
          refine ⟨rfl, l, [V.bl q], G, _, [.bool q], rfl, t, gl, sm, ob, .cons (.bl q) .nil, ?_⟩
          have ea : (.tuple [.str c0, .int (n + 1), .int l1] : PyData) = .tuple [.str c0, .int (n + 1), .int (l : Int)] := by rw [← ed3]
          rw [ea] at p
          cases qg : g (.tuple [.str c0, .int (n + 1), .int (l : Int)]) [.bool q] with
          | ok d => rw [qg] at p; intro G' H' e; rw [dl] at e; exact p G' H' e
          | ex c => rw [qg] at p; intro H' e; rw [dl] at e; exact p H' e
          | no => rw [qg] at p; exact p
        by_cases q1 : n + 1 ≤ a
        · rw [decide_eq_true q1]
          refine iteT ⟨V.int deep, s1, deep, b, rfl, rfl, fin _ (by rw [decide_eq_true q1]; rfl)⟩
        · rw [decide_eq_false q1]
          exact iteF (fin _ (by rw [decide_eq_false q1]; rfl))
    · exact p.elim
  · exact p.elim
/-- made with 0 -/
def spInit (K : PySem.W.Frag) (cn : Str) : Sp := fun vs H Q _ => ∃ x C dx, vs = [.ref x] ∧ PySem.W.nsIn K mainGlobals cn = some (some (.ref C)) ∧ H x = some (.ins C dx []) ∧ Q .non (upd H x (.ins C dx [(Str.ofString "many", V.int 0)]))
theorem fn_init {cn qual : Str} {st : Stmt} {f : Addr} {fd : FuncData} {k : Nat} (F : Fun K "__init__" qual st f fd) (S : FnScope ["self"] ["self"] (defScope st)) (Cc : CntC K cn)
    (hbody : ∀ (cdv : Value) (A : Around) (outer : List Env) (s : Shared) (H : Hp) (E : XK), PSs (cxOf (L2N.CX P w) P w K mg base ["self"] qual (defScope st) f cdv A outer s H E) (defBody st) (sFld K (tVar 0) (tC (.int 0)) "many")) :
    FnOk P w K mg base (L2N.CX P w) (k + 1) f fd ["self"] (spInit K cn) := by
  obtain ⟨C, hC, c, na⟩ := Cc.ex
  obtain ⟨oc, od, kV, doc, pm, an, cdv, ct, osl, rfl, lk, hcd⟩ := F.ex
  refine fn_of lk hcd S (fun vs H Q E h => by obtain ⟨x, _, _, rfl, _⟩ := h; rfl) fun A outer s H vs Q E hr h => ?_
  obtain ⟨x, C', dx, rfl, hC', hx, q⟩ := h
  rw [hC] at hC'
  cases hC'
  exact ⟨_, hbody cdv A outer s H E, .ref x, rfl, x, C, dx, [], rfl, hx, c, na, by simp, q⟩
end
/-! ### Count().m(..) as a statement -/
def codeC (cn : Str) (n l : Nat) : PyData := .tuple [.str cn, .int (n : Int), .int (l : Int)]
def sameK : R PyData → R PyData → Prop
  | .ok _, .ok _ => True
  | .ex c, .ex d => c = d
  | .no, .no => True
  | _, _ => False
open Classical in
noncomputable def gNew (cn : Str) (g : PyData → List PyData → R PyData) (ds : List PyData) : R PyData := if ∀ l : Nat, sameK (g (codeC cn 0 l) ds) (g (codeC cn 0 0) ds) then (g (codeC cn 0 0) ds).bind fun _ => .ok .none else .no
def noOb (env : Ev) : Bool := env.all fun s => match s with | .ob _ => false | _ => true
noncomputable def sNew (cn : Str) (g : PyData → List PyData → R PyData) (fs : List EF) (env : Ev) : Out := if noOb env = true then (aAll fs (env.map Sl.pur)).outL fun ds => (gNew cn g ds).out fun _ => .nx env else .no
theorem StR.past {K : PySem.W.Frag} {G0 H0 G H G' H' : Hp} {σ : L2.St} {env : Ev} {l : Addr} (S : StR K G0 H0 G H σ env) (hno : noOb env = true) (h3 : H0 l = none) (hl : ∃ C dx fs, H l = some (.ins C dx fs)) (e : Ext G (del H l) G' H') (gl : G' l = none) : StR K G0 H0 G' H' σ env := by
  obtain ⟨C, dx, fs, hC⟩ := hl
  refine ⟨S.tb, ⟨S.x.g.trans e.g, (same_del S.x.h h3 hC).trans e.h, e.i, fun b b1 b2 => ?_⟩, S.len, fun j d1 p => ?_, fun j d1 p => ?_, S.dj, ObS.no fun i d q => ?_⟩
  · have nb : b ≠ l := fun z => by subst z; exact b1 gl
    cases z : G b with
    | none =>
      have := e.f b b1 z
      rw [del_ne nb] at this
      exact S.x.h.free this
    | some u => exact S.x.f b (by rw [z]; simp) b2
  · obtain ⟨v, a1, a2⟩ := S.pu j d1 p
    exact ⟨v, a1, a2.mono e.g⟩
  · obtain ⟨m, a1, a2, a3, a4⟩ := S.ow j d1 p
    obtain ⟨u, hu, hk⟩ := a4.kind
    have nm : m ≠ l := fun z => by
      subst z
      rw [hC] at hu
      cases hu
      rcases hk with ⟨_, z⟩ | ⟨_, z⟩ | ⟨_, _, z⟩ <;> first | cases z | (unfold DnO at z; cases z)
    have hu' : del H l m = some u := by rw [del_ne nm]; exact hu
    exact ⟨m, a1, e.clean a2 hu', a3, a4.mono e.g fun o' ho t => e.h.ap m o' (by rw [del_ne nm]; exact ho) t.1⟩
  · unfold noOb at hno
    rw [List.all_eq_true] at hno
    have := hno _ (List.mem_iff_getElem?.mpr ⟨i, q⟩)
    cases this
section
variable {X : Cx} {ec : Nat → Addr} {E : XK} {G0 H0 : Hp} {k n : Nat} {cn m : Str} {g : PyData → List PyData → R PyData} {e : Expr} {es : List Expr} {fs : List EF} {p1 apos cpos ipos pos : Pos} {fi : Addr} {fdi : FuncData}
theorem ss_new (M : CalM X.prog X.w X.K X.mg X.base ec cn m n k g) (hmk : ∀ C, PySem.W.nsIn X.K mainGlobals cn = some (some (.ref C)) → Mk X.K C fi) (Fi : FnOk X.prog X.w X.K X.mg X.base (L2N.CX X.prog X.w) k fi fdi ["self"] (spInit X.K cn)) (hbi : Binds X.K fdi ["self"] []) (tk : L2N.Takes X (fun cls d _ H => E cls d H)) (hr : Room (k + 1) X.A)
    (hg : Gl X cn) (hmg : ∀ C, PySem.W.nsIn X.K mainGlobals cn = some (some (.ref C)) → X.mg cn = some (.ref C)) (hdb : (cn == ("__debug__" : Str)) = false)
    (ha : PA X (e :: es) (tDA X.K ec (fun cls d _ H => E cls d H) fs)) (hn : fs.length + 1 = n := by rfl) (hmany : (m == (Str.ofString "many")) = false := by decide)
    (hst : starEach (e :: es) X.env = (false, eval e X.env) :: starEach es X.env := by rfl) (hpl : (backTo cpos (starEach es X.env)).any (·.1) = false := by rfl) {pl : Sem Bool}
    (ht : eval (.Call (.Attribute (.Call (.Name cn p1) [] [] ipos) m apos) (e :: es) [] cpos) X.env = (do
      let ov ← eval (.Call (.Name cn p1) [] [] ipos) X.env
      standAt apos.atName
      let (f, first) ← holding [ov] (getMethod ov m pl)
      callWith cpos f first (backTo cpos (starEach (e :: es) X.env)) (backToKw cpos (keywordEach [] X.env))) := by rfl)
    (hs : swapsWith (.Call (.Attribute (.Call (.Name cn p1) [] [] ipos) m apos) (e :: es) [] cpos) none pos.line X.env = pure false := by rfl) :
    PS X (.Expr (.Call (.Attribute (.Call (.Name cn p1) [] [] ipos) m apos) (e :: es) [] cpos) pos) (tDS X.K ec (fun cls d _ H => E cls d H) G0 H0 (sNew cn g fs)) := by
  obtain ⟨C, f, fd, ps, hC, c, hm, F, hb⟩ := M.ex
  have hx : Passes (L2N.CX X.prog X.w) X E := fun pins σ H s e s' I h => L2N.passAt tk σ pins H s e s' I h
  refine PS_imp (ps_expr (pe_methW (E := WE (fun cls d _ H => E cls d H)) (pl := pl) (pe_make0 (dvs := []) (E := E) (hmk C hC) Fi hr hg (hmg C hC) hbi .nil hx hdb) c hm F (hr.mono (Nat.le_succ _)) hb (fun σ => L2N.passAt tk σ) ha hst hpl ht) hs) fun D σ H ⟨G, env, S, p⟩ => ?_
  unfold sNew at p
  split at p
  · rename_i hno
    intro x dx nx ndx hne
    refine ⟨x, C, dx, rfl, hC, upd_same, rfl, ?_⟩
    rw [upd_upd]
    have s1 : Same H (upd H dx (.own x)) := same_new ndx
    have nx1 : upd H dx (.own x) x = none := by rw [upd_ne (Ne.symm hne)]; exact nx
    have s2 : Same (upd H dx (.own x)) (upd (upd H dx (.own x)) x (.ins C dx [(Str.ofString "many", V.int 0)])) := same_new nx1
    have hx2 : upd (upd H dx (.own x)) x (.ins C dx [(Str.ofString "many", V.int 0)]) x = some (.ins C dx [(Str.ofString "many", V.int 0)]) := upd_same
    have hd2 : upd (upd H dx (.own x)) x (.ins C dx [(Str.ofString "many", V.int 0)]) dx = some (.own x) := by rw [upd_ne hne, upd_same]
    have sH := s1.trans s2
    generalize upd (upd H dx (.own x)) x (.ins C dx [(Str.ofString "many", V.int 0)]) = H2 at *
    have S2 := S.grow (Ext.heap S.x.i sH)
    have gx : G x = none := S.x.i.free nx
    have h0x : H0 x = none := S.x.h.free nx
    refine ⟨x, dx, _, rfl, hx2, by simp [List.lookup, hmany], G, _, S2.x.i, S2.envP, ?_⟩
    cases qa : aAll fs (env.map Sl.pur) with
    | no => rw [qa] at p; exact p.elim
    | ex c => rw [qa] at p; exact fun H' s => p σ H' (S2.x.h.trans s)
    | ok ds =>
      rw [qa] at p
      intro vs G1 H1 e1 r1
      have S3 := S2.grow e1
      have gx1 : G1 x = none := e1.clean gx hx2
      have hl1 : H1 x = some (.ins C dx [(Str.ofString "many", V.int 0)]) := e1.h.ap _ _ hx2 fun _ z => by cases z
      have hd1 : H1 dx = some (.own x) := e1.h.ap _ _ hd2 fun _ z => by cases z
      refine ⟨by simp [r1.length, aAll_len qa, hn], x, vs, G1, codeC cn 0 x, ds, rfl, (S3.tb.mono S3.x.g), gx1, e1.i, ⟨cn, 0, C, dx, rfl, hC, hl1, hd1⟩, r1, ?_⟩
      have p : PostS X.K ec (fun cls d _ H => E cls d H) G0 H0 G D ((gNew cn g ds).out fun _ => .nx env) := p
      unfold gNew at p
      split at p
      · rename_i hk
        have hkx := hk x
        cases q0 : g (codeC cn 0 0) ds with
        | no => rw [q0] at p; exact p.elim
        | ex c =>
          rw [q0] at p hkx
          cases qx : g (codeC cn 0 x) ds with
          | ex c' =>
            rw [qx] at hkx
            have : c' = c := hkx
            subst this
            exact fun H' s => p σ H' ((same_del S3.x.h h0x hl1).trans s)
          | ok d => rw [qx] at hkx; exact hkx.elim
          | no => rw [qx] at hkx; exact hkx.elim
        | ok d =>
          rw [q0] at p hkx
          cases qx : g (codeC cn 0 x) ds with
          | ok d' => exact fun G' H' e2 gl o => p σ G' H' (e1.g.trans e2.g) (S3.past hno h0x ⟨_, _, _, hl1⟩ e2 gl)
          | ex c => rw [qx] at hkx; exact hkx.elim
          | no => rw [qx] at hkx; exact hkx.elim
      · exact p.elim
  · exact p.elim
end
end PL
/-! PL, part aa: texts compared; statements of a class's body. -/
namespace PL
open PySem PySem.Spec PyProof.Rows L2
def dGeS : PyData → PyData → R PyData
  | .str a, .str b => .ok (.bool (!decide (a.cps.toList < b.cps.toList)))
  | _, _ => .no
def dInS : PyData → PyData → R PyData
  | .str a, .str b => .ok (.bool (!(Builtin.Str.occurrences b a 0 b.length 1).isEmpty))
  | _, _ => .no
section
variable {K : PySem.W.Frag}
theorem od_geS : OpD K (fun x y H Q => ∃ i j, x = .str i ∧ y = .str j ∧ Q (.bl (!decide (i.cps.toList < j.cps.toList))) H) dGeS := by
  intro x y dx dy d G H Q i rx ry h q
  cases rx with
  | str a =>
    cases ry with
    | str b => cases h; exact ⟨a, b, rfl, rfl, q _ G H (Ext.refl i) (.bl _)⟩
    | _ => cases h
  | _ => cases h
theorem od_inS : OpD K (fun x y H Q => ∃ i j, x = .str i ∧ y = .str j ∧ Q (.bl (!(Builtin.Str.occurrences j i 0 j.length 1).isEmpty)) H) dInS := by
  intro x y dx dy d G H Q i rx ry h q
  cases rx with
  | str a =>
    cases ry with
    | str b => cases h; exact ⟨a, b, rfl, rfl, q _ G H (Ext.refl i) (.bl _)⟩
    | _ => cases h
  | _ => cases h
theorem nx_geS : NoEx dGeS := by
  intro x y c h
  unfold dGeS at h
  split at h <;> cases h
theorem nx_inS : NoEx dInS := by
  intro x y c h
  unfold dInS at h
  split at h <;> cases h
end
section
variable {X : Cx} {ec : Nat → Addr} {W : WX} {a b : Expr} {fa fb : EF} {pos : Pos}
theorem se_geS (ha : PE X a (tD X.K ec W fa)) (hb : PE X b (tD X.K ec W fb)) : PE X (.Compare a [.GtE] [b] pos) (tD X.K ec W (eBin dGeS fa fb)) := se_cmp op_ge_str od_geS nx_geS ha hb (nomark _)
theorem st_geS (ha : PE X a (tD X.K ec W fa)) (hb : PE X b (tD X.K ec W fb)) : PT X (.Compare a [.GtE] [b] pos) (tDT X.K ec W (bVal (eBin dGeS fa fb))) := st_cmp op_ge_str od_geS nx_geS ha hb (nomark _)
theorem se_inS (ha : PE X a (tD X.K ec W fa)) (hb : PE X b (tD X.K ec W fb)) (hm : behindInMarks .In b = false := by rfl) : PE X (.Compare a [.In] [b] pos) (tD X.K ec W (eBin dInS fa fb)) := se_cmp op_in_str od_inS nx_inS ha hb hm
end
/-- the j-th statement of a class's body -/
def clsSt (s : Stmt) (j : Nat) : Stmt := match s with
  | .ClassDef _ _ _ body _ _ _ _ _ _ _ => body.getD j (.Pass ⟨0, 0, 0, 0⟩)
  | _ => .Pass ⟨0, 0, 0, 0⟩
theorem fn_noO {P : Program} {w : World} {K : PySem.W.Frag} {mg : Str → Option Value} {base : Heap} {ec : Nat → Addr} {k n : Nat} {f : Addr} {fd : FuncData} {ps : List Str} (hn : ps.length = n) {g : PyData → List PyData → R PyData} (hg : ∀ d ds, g d ds = .no) : FnOk P w K mg base (L2N.CX P w) k f fd ps (spO K ec n g) :=
  ⟨fun vs H Q E h => by rw [h.1, hn], fun A outer s H args us vs Q E hr e0 hb r h => by
    obtain ⟨_, l, ws, G, d, ds, _, _, _, _, _, _, p⟩ := h
    rw [hg] at p
    exact p.elim⟩
/-- how objects of a class are made -/
structure InitC (P : Program) (w : World) (K : PySem.W.Frag) (mg : Str → Option Value) (base : Heap) (cn : Str) (k : Nat) : Prop where
  ex : ∃ (fi : Addr) (fdi : FuncData), (∀ C, PySem.W.nsIn K mainGlobals cn = some (some (.ref C)) → Mk K C fi) ∧ FnOk P w K mg base (L2N.CX P w) k fi fdi ["self"] (spInit K cn) ∧ Binds K fdi ["self"] [] ∧ ∀ C, PySem.W.nsIn K mainGlobals cn = some (some (.ref C)) → mg cn = some (.ref C)
section
variable {X : Cx} {ec : Nat → Addr} {E : XK} {G0 H0 : Hp} {j k n : Nat} {cn m : Str} {g : PyData → List PyData → R PyData} {e : Expr} {es : List Expr} {fs : List EF} {p1 apos cpos ipos pos : Pos}
theorem ss_newI (M : CalM X.prog X.w X.K X.mg X.base ec cn m n k g) (I : InitC X.prog X.w X.K X.mg X.base cn j) (hjk : j ≤ k) (tk : L2N.Takes X (fun cls d _ H => E cls d H)) (hr : Room (k + 1) X.A)
    (hg : Gl X cn) (hdb : (cn == ("__debug__" : Str)) = false)
    (ha : PA X (e :: es) (tDA X.K ec (fun cls d _ H => E cls d H) fs)) (hn : fs.length + 1 = n := by rfl) (hmany : (m == (Str.ofString "many")) = false := by decide)
    (hst : starEach (e :: es) X.env = (false, eval e X.env) :: starEach es X.env := by rfl) (hpl : (backTo cpos (starEach es X.env)).any (·.1) = false := by rfl) {pl : Sem Bool}
    (ht : eval (.Call (.Attribute (.Call (.Name cn p1) [] [] ipos) m apos) (e :: es) [] cpos) X.env = (do
      let ov ← eval (.Call (.Name cn p1) [] [] ipos) X.env
      standAt apos.atName
      let (f, first) ← holding [ov] (getMethod ov m pl)
      callWith cpos f first (backTo cpos (starEach (e :: es) X.env)) (backToKw cpos (keywordEach [] X.env))) := by rfl)
    (hs : swapsWith (.Call (.Attribute (.Call (.Name cn p1) [] [] ipos) m apos) (e :: es) [] cpos) none pos.line X.env = pure false := by rfl) :
    PS X (.Expr (.Call (.Attribute (.Call (.Name cn p1) [] [] ipos) m apos) (e :: es) [] cpos) pos) (tDS X.K ec (fun cls d _ H => E cls d H) G0 H0 (sNew cn g fs)) := by
  obtain ⟨fi, fdi, h1, h2, h3, h4⟩ := I.ex
  exact ss_new M h1 (h2.mono hjk) h3 tk hr hg h4 hdb ha hn hmany hst hpl ht hs
end
end PL
/-! PL, part ab: lists of ways (instances with a dict of names), apart from all else. -/
namespace PL
open PySem PySem.Spec PyProof.Rows L2
structure WayD where
  names : List (PyData × PyData)
  trail : List PyData
  steps : Int
  share : PyData
abbrev fdW (nd : Addr) (vt : V) (n : Int) (vs : V) : List (Str × V) := [(Str.ofString "names", .ref nd), (Str.ofString "trail", vt), (Str.ofString "steps", .int n), (Str.ofString "share", vs)]
/-- the way at p.1, its names at p.2 -/
def WayA (K : PySem.W.Frag) (G H : Hp) (p : Addr × Addr) (w : WayD) : Prop := ∃ (C dx : Addr) (vt vs : V) (kvs : List (Key × V)), PySem.W.nsIn K mainGlobals (Str.ofString "Way") = some (some (.ref C)) ∧ H p.1 = some (.ins C dx (fdW p.2 vt w.steps vs)) ∧ H dx = some (.own p.1) ∧ H p.2 = some (.dK kvs) ∧ (kvs.map (·.1)).Nodup ∧ RepK K G kvs w.names ∧ Rep K G vt (.tuple w.trail) ∧ Rep K G vs w.share ∧ G p.1 = none ∧ G p.2 = none
inductive WaysA (K : PySem.W.Frag) (G H : Hp) : List (Addr × Addr) → List WayD → Prop
  | nil : WaysA K G H [] []
  | cons {p : Addr × Addr} {as : List (Addr × Addr)} {w : WayD} {ws : List WayD} : WayA K G H p w → WaysA K G H as ws → WaysA K G H (p :: as) (w :: ws)
def fpW (as : List (Addr × Addr)) : List Addr := as.flatMap fun p => [p.1, p.2]
@[simp] theorem fpW_nil : fpW [] = [] := rfl
@[simp] theorem fpW_cons (p : Addr × Addr) (as : List (Addr × Addr)) : fpW (p :: as) = p.1 :: p.2 :: fpW as := rfl
@[simp] theorem fpW_app (as bs : List (Addr × Addr)) : fpW (as ++ bs) = fpW as ++ fpW bs := by unfold fpW; rw [List.flatMap_append]
/-- an instance, a dict, a list -/
def Raw (u : HO) : Prop := (∃ C dx fs, u = .ins C dx fs) ∨ (∃ kvs, u = .dK kvs) ∨ (∃ vs, u = .lst vs) ∨ ∃ a ks, u = DnO a ks
theorem tame_ins {C dx : Addr} {fs : List (Str × V)} : Tame (.ins C dx fs) := ⟨(fun _ z => by cases z), (fun _ _ z => by unfold LamX.CodeO at z; cases z)⟩
theorem Raw.tame {u : HO} (h : Raw u) : Tame u := by
  rcases h with ⟨C, dx, fs, rfl⟩ | ⟨kvs, rfl⟩ | ⟨vs, rfl⟩ | ⟨a, ks, rfl⟩
  · exact tame_ins
  · exact tame_dK _
  · exact tame_lst _
  · exact tame_Dn _ _
theorem Raw.own {u : HO} (h : Raw u) : ∀ x, u ≠ .own x := by
  rcases h with ⟨C, dx, fs, rfl⟩ | ⟨kvs, rfl⟩ | ⟨vs, rfl⟩ | ⟨a, ks, rfl⟩ <;> intro _ z <;> first | cases z | (unfold DnO at z; cases z)
theorem raw_Dn (a : Addr) (ks : List NK) : Raw (DnO a ks) := .inr (.inr (.inr ⟨_, _, rfl⟩))
theorem raw_lst (xs : List V) : Raw (.lst xs) := .inr (.inr (.inl ⟨_, rfl⟩))
theorem raw_dK (xs : List (Key × V)) : Raw (.dK xs) := .inr (.inl ⟨_, rfl⟩)
theorem raw_ins {C dx : Addr} {fs : List (Str × V)} : Raw (.ins C dx fs) := .inl ⟨_, _, _, rfl⟩
section
variable {K : PySem.W.Frag} {G H G' H' : Hp}
/-- it stays where its objects and the view stay -/
theorem WayA.keep {p : Addr × Addr} {w : WayD} (h : WayA K G H p w) (g : Same G G') (e : ∀ b o, H b = some o → (b = p.1 ∨ b = p.2 ∨ o = .own p.1) → H' b = some o) (n1 : G' p.1 = none) (n2 : G' p.2 = none) : WayA K G' H' p w := by
  obtain ⟨C, dx, vt, vs, kvs, h1, h2, h3, h4, h5, h6, h7, h8, _, _⟩ := h
  exact ⟨C, dx, vt, vs, kvs, h1, e _ _ h2 (.inl rfl), e _ _ h3 (.inr (.inr rfl)), e _ _ h4 (.inr (.inl rfl)), h5, h6.mono g, h7.mono g, h8.mono g, n1, n2⟩
theorem WayA.at1 {p : Addr × Addr} {w : WayD} (h : WayA K G H p w) : ∃ u, H p.1 = some u ∧ Raw u := by
  obtain ⟨C, dx, vt, vs, kvs, h1, h2, h3, h4, _⟩ := h
  exact ⟨_, h2, raw_ins⟩
theorem WayA.at2 {p : Addr × Addr} {w : WayD} (h : WayA K G H p w) : ∃ u, H p.2 = some u ∧ Raw u := by
  obtain ⟨C, dx, vt, vs, kvs, h1, h2, h3, h4, _⟩ := h
  exact ⟨_, h4, raw_dK _⟩
theorem WaysA.len : ∀ {as : List (Addr × Addr)} {ws : List WayD}, WaysA K G H as ws → as.length = ws.length
  | _, _, .nil => rfl
  | _, _, .cons _ r => by rw [List.length_cons, List.length_cons, r.len]
theorem WaysA.tame : ∀ {as : List (Addr × Addr)} {ws : List WayD}, WaysA K G H as ws → ∀ a ∈ fpW as, G a = none ∧ ∃ u, H a = some u ∧ Raw u
  | _, _, .nil, a, h => by cases h
  | _, _, .cons (p := p) w r, a, h => by
    rw [fpW_cons] at h
    rcases List.mem_cons.mp h with rfl | h
    · obtain ⟨_, _, _, _, _, _, _, _, _, _, _, _, _, n1, n2⟩ := id w
      exact ⟨n1, w.at1⟩
    · rcases List.mem_cons.mp h with rfl | h
      · obtain ⟨_, _, _, _, _, _, _, _, _, _, _, _, _, n1, n2⟩ := id w
        exact ⟨n2, w.at2⟩
      · exact WaysA.tame r a h
theorem WaysA.keep (g : Same G G') : ∀ {as : List (Addr × Addr)} {ws : List WayD}, WaysA K G H as ws → (∀ b o, H b = some o → (b ∈ fpW as ∨ ∃ x, o = .own x) → H' b = some o) → (∀ a ∈ fpW as, G' a = none) → WaysA K G' H' as ws
  | _, _, .nil, _, _ => .nil
  | _, _, .cons (p := p) w r, e, n => by
    refine .cons (w.keep g (fun b o h1 h2 => e b o h1 ?_) (n _ (by simp)) (n _ (by simp))) (r.keep g (fun b o h1 h2 => e b o h1 ?_) fun a ha => n a (by simp [ha]))
    · rcases h2 with rfl | rfl | rfl
      · exact .inl (by simp)
      · exact .inl (by simp)
      · exact .inr ⟨_, rfl⟩
    · rcases h2 with h2 | h2
      · exact .inl (by simp [h2])
      · exact .inr h2
theorem WaysA.app : ∀ {as bs : List (Addr × Addr)} {ws vs : List WayD}, WaysA K G H as ws → WaysA K G H bs vs → WaysA K G H (as ++ bs) (ws ++ vs)
  | _, _, _, _, .nil, s => s
  | _, _, _, _, .cons w r, s => .cons w (r.app s)
theorem WaysA.split : ∀ {as : List (Addr × Addr)} {ws vs : List WayD} {bs : List (Addr × Addr)}, WaysA K G H (as ++ bs) (ws ++ vs) → as.length = ws.length → WaysA K G H as ws ∧ WaysA K G H bs vs
  | [], [], _, _, h, _ => ⟨.nil, h⟩
  | _ :: _, _ :: _, _, _, .cons w r, e => by
    obtain ⟨a, b⟩ := WaysA.split r (by simpa using e)
    exact ⟨.cons w a, b⟩
  | [], _ :: _, _, _, _, e => by simp at e
  | _ :: _, [], _, _, _, e => by simp at e
end
/-! ### the frame -/
def delF (H : Hp) (fp : List Addr) : Hp := fun b => if b ∈ fp then none else H b
theorem delF_in {H : Hp} {fp : List Addr} {b : Addr} (h : b ∈ fp) : delF H fp b = none := if_pos h
theorem delF_out {H : Hp} {fp : List Addr} {b : Addr} (h : b ∉ fp) : delF H fp b = H b := if_neg h
theorem delF_some {H : Hp} {fp : List Addr} {b : Addr} {o : HO} (h : delF H fp b = some o) : b ∉ fp ∧ H b = some o := by
  by_cases z : b ∈ fp
  · rw [delF_in z] at h; cases h
  · rw [delF_out z] at h; exact ⟨z, h⟩
theorem same_delF {A H : Hp} {fp : List Addr} (e : Same A H) (n : ∀ a ∈ fp, A a = none) (t : ∀ a ∈ fp, ∃ u, H a = some u ∧ Tame u) : Same A (delF H fp) := by
  have ne : ∀ b u, A b = some u → b ∉ fp := fun b u q z => by rw [n b z] at q; cases q
  refine ⟨fun b o q k => by rw [delF_out (ne b o q)]; exact e.ap b o q k, fun b ps q => by rw [delF_out (ne b _ q)]; exact e.tb b ps q, fun P tb => ?_⟩
  obtain ⟨ps, h1, h2, h3⟩ := e.tx P tb
  have nP : P ∉ fp := fun z => by obtain ⟨u, hu, ht⟩ := t P z; rw [h1] at hu; cases hu; exact ht.1 _ rfl
  refine ⟨ps, by rw [delF_out nP]; exact h1, h2, fun pos cv hc => ?_⟩
  obtain ⟨c, e1, e2⟩ := h3 pos cv hc
  have nc : c ∉ fp := fun z => by obtain ⟨u, hu, ht⟩ := t c z; rw [e2] at hu; cases hu; exact ht.2 _ _ rfl
  exact ⟨c, e1, by rw [delF_out nc]; exact e2⟩
structure Fr (G0 H0 : Hp) (fp0 : List Addr) (G H : Hp) : Prop where
  g : Same G0 G
  i : Same G H
  h : Same (delF H0 fp0) H
  f : ∀ b, G b ≠ none → G0 b = none → H0 b = none
  k : ∀ b, H b = none → H0 b = none
theorem Fr.start {G H : Hp} {fp : List Addr} (i : Same G H) : Fr G H fp G H := ⟨Same.refl _, i, .all fun b o h => (delF_some h).2, fun b h1 h2 => absurd h2 h1, fun b h => h⟩
theorem Fr.ext {G0 H0 G H G' H' : Hp} {fp0 : List Addr} (F : Fr G0 H0 fp0 G H) (e : Ext G H G' H') : Fr G0 H0 fp0 G' H' :=
  ⟨F.g.trans e.g, e.i, F.h.trans e.h, fun b h1 h2 => by
    cases q : G b with
    | none => exact F.k b (e.f b h1 q)
    | some o => exact F.f b (by rw [q]; simp) h2, fun b h => F.k b (e.h.free h)⟩
/-- some things with an owner: the raw ones xs, the ways as -/
structure WG (K : PySem.W.Frag) (G0 H0 : Hp) (fp0 : List Addr) (G H : Hp) (xs : List Addr) (as : List (Addr × Addr)) (ws : List WayD) : Prop where
  fr : Fr G0 H0 fp0 G H
  wa : WaysA K G H as ws
  nd : (xs ++ fpW as).Nodup
  ow : ∀ a ∈ xs ++ fpW as, a ∈ fp0 ∨ H0 a = none
  gx : ∀ a ∈ xs, G a = none ∧ ∃ u, H a = some u ∧ Raw u
section
variable {K : PySem.W.Frag} {G0 H0 G H G' H' : Hp} {fp0 : List Addr} {xs : List Addr} {as : List (Addr × Addr)} {ws : List WayD}
theorem WG.tame (W : WG K G0 H0 fp0 G H xs as ws) : ∀ a ∈ xs ++ fpW as, G a = none ∧ ∃ u, H a = some u ∧ Raw u := fun a h => by
  rcases List.mem_append.mp h with h | h
  · exact W.gx a h
  · exact W.wa.tame a h
theorem own_ntbl {x : Addr} : ∀ ps, (HO.own x) ≠ .tbl ps := fun _ z => by cases z
theorem WG.ext (W : WG K G0 H0 fp0 G H xs as ws) (e : Ext G H G' H') : WG K G0 H0 fp0 G' H' xs as ws := by
  have cl : ∀ a, G a = none → (∃ u, H a = some u ∧ Raw u) → G' a = none := fun a g ⟨u, hu, _⟩ => e.clean g hu
  refine ⟨W.fr.ext e, W.wa.keep e.g (fun b o h1 h2 => ?_) (fun a ha => let ⟨g, t⟩ := W.wa.tame a ha; cl a g t), W.nd, W.ow, fun a ha => ?_⟩
  · refine e.h.ap b o h1 ?_
    rcases h2 with h2 | ⟨x, rfl⟩
    · obtain ⟨_, u, hu, ht⟩ := W.wa.tame b h2
      rw [h1] at hu
      cases hu
      exact ht.tame.1
    · exact own_ntbl
  · obtain ⟨g, u, hu, ht⟩ := W.gx a ha
    exact ⟨cl a g ⟨u, hu, ht⟩, u, e.h.ap a u hu ht.tame.1, ht⟩
/-- one owned thing is written -/
theorem WG.put (W : WG K G0 H0 fp0 G H xs as ws) {a : Addr} {o : HO} {ws' : List WayD} (ha : a ∈ xs ++ fpW as) (ho : Raw o) (wa : WaysA K G (upd H a o) as ws') : WG K G0 H0 fp0 G (upd H a o) xs as ws' := by
  obtain ⟨g, u, hu, ht⟩ := W.tame a ha
  have n0 : delF H0 fp0 a = none := by
    rcases W.ow a ha with z | z
    · exact delF_in z
    · by_cases q : a ∈ fp0
      · exact delF_in q
      · rw [delF_out q]; exact z
  refine ⟨⟨W.fr.g, same_put W.fr.i g hu ht.tame, same_put W.fr.h n0 hu ht.tame, W.fr.f, fun b h => ?_⟩, wa, W.nd, W.ow, fun b hb => ?_⟩
  · by_cases q : b = a
    · subst q; rw [upd_same] at h; cases h
    · rw [upd_ne q] at h; exact W.fr.k b h
  · obtain ⟨g2, u2, hu2, ht2⟩ := W.gx b hb
    by_cases q : b = a
    · subst q; exact ⟨g2, o, upd_same, ho⟩
    · exact ⟨g2, u2, by rw [upd_ne q]; exact hu2, ht2⟩
/-- a new raw thing -/
theorem WG.new (W : WG K G0 H0 fp0 G H xs as ws) {a : Addr} {o : HO} (ha : H a = none) (ho : Raw o) : WG K G0 H0 fp0 G (upd H a o) (a :: xs) as ws := by
  have W2 := W.ext (Ext.heap W.fr.i (same_new (o := o) ha))
  refine ⟨W2.fr, W2.wa, ?_, fun b hb => ?_, fun b hb => ?_⟩
  · rw [List.cons_append, List.nodup_cons]
    refine ⟨fun z => ?_, W.nd⟩
    obtain ⟨_, u, hu, _⟩ := W.tame a z
    rw [ha] at hu
    cases hu
  · rw [List.cons_append] at hb
    rcases List.mem_cons.mp hb with rfl | hb
    · exact .inr (W.fr.k _ ha)
    · exact W.ow b hb
  · rcases List.mem_cons.mp hb with rfl | hb
    · exact ⟨W.fr.i.free ha, o, upd_same, ho⟩
    · exact W2.gx b hb
/-- some are given up -/
theorem WG.sub {ys : List Addr} {bs : List (Addr × Addr)} {vs : List WayD} (W : WG K G0 H0 fp0 G H xs as ws) (wa : WaysA K G H bs vs) (sx : ∀ a ∈ ys, a ∈ xs) (nd : (ys ++ fpW bs).Nodup) (sa : ∀ a ∈ fpW bs, a ∈ xs ++ fpW as) : WG K G0 H0 fp0 G H ys bs vs :=
  ⟨W.fr, wa, nd, fun a ha => by
    rcases List.mem_append.mp ha with h | h
    · exact W.ow a (List.mem_append_left _ (sx a h))
    · exact W.ow a (sa a h), fun a ha => W.gx a (sx a ha)⟩
end
/-! ### the promise of a def from ways to ways -/
def PostW (K : PySem.W.Frag) (ec : Nat → Addr) (G H : Hp) (fp : List Addr) (Q : VK) (E : XK) : R (List WayD) → Prop
  | .ok ws => ∀ G' H' l as, WG K G H fp G' H' [l] as ws → H' l = some (.lst (as.map fun p => V.ref p.1)) → Q (.ref l) H'
  | .ex c => ∀ H', Same (delF H fp) H' → E (.ref (ec c)) none H'
  | .no => False
def spW (K : PySem.W.Frag) (ec : Nat → Addr) (g : List WayD → PyData → R (List WayD)) : Sp := fun vs H Q E => vs.length = 2 ∧ ∃ (l : Addr) (vb : V) (G : Hp) (as : List (Addr × Addr)) (ws : List WayD) (d : PyData), vs = [.ref l, vb] ∧ Tbs G ∧ Same G H ∧ G l = none ∧ (l :: fpW as).Nodup ∧ WaysA K G H as ws ∧ H l = some (.lst (as.map fun p => V.ref p.1)) ∧ Rep K G vb d ∧ PostW K ec G H (l :: fpW as) Q E (g ws d)
theorem wg_start {K : PySem.W.Frag} {G H : Hp} {l : Addr} {as : List (Addr × Addr)} {ws : List WayD} (i : Same G H) (gl : G l = none) (nd : (l :: fpW as).Nodup) (wa : WaysA K G H as ws) (hl : H l = some (.lst (as.map fun p => V.ref p.1))) : WG K G H (l :: fpW as) G H [l] as ws :=
  ⟨Fr.start i, wa, nd, fun a ha => .inl ha, fun a ha => by rw [List.mem_singleton] at ha; subst ha; exact ⟨gl, _, hl, raw_lst _⟩⟩
section
variable {K : PySem.W.Frag} {G0 H0 G H G' H' : Hp} {fp0 : List Addr} {xs : List Addr} {l l' : Addr} {as1 as as2 as' : List (Addr × Addr)} {ws1 ws ws2 ws' : List WayD}
/-- behind a call that was given the ways as, in the list l -/
theorem WG.call (W : WG K G0 H0 fp0 G H (l :: xs) (as1 ++ (as ++ as2)) (ws1 ++ (ws ++ ws2))) (h1 : as1.length = ws1.length) (h2 : as.length = ws.length) (C : WG K G H (l :: fpW as) G' H' [l'] as' ws') : WG K G0 H0 fp0 G' H' (l' :: xs) (as1 ++ (as' ++ as2)) (ws1 ++ (ws' ++ ws2)) ∧ ∀ a ∈ xs, H' a = H a := by
  obtain ⟨wa1, wr⟩ := W.wa.split h1
  obtain ⟨wa0, wa2⟩ := wr.split h2
  have hfp : ∀ a ∈ l :: fpW as, a ∈ (l :: xs) ++ fpW (as1 ++ (as ++ as2)) := fun a ha => by
    rcases List.mem_cons.mp ha with rfl | ha
    · simp
    · simp [ha]
  have nd := W.nd
  have apart : ∀ a ∈ xs ++ (fpW as1 ++ fpW as2), a ∉ l :: fpW as := by
    intro a ha z
    rw [List.cons_append, List.nodup_cons] at nd
    obtain ⟨n1, n2⟩ := nd
    rw [fpW_app, fpW_app] at n1 n2
    rcases List.mem_cons.mp z with rfl | z
    · refine n1 ?_
      rcases List.mem_append.mp ha with h | h
      · simp [h]
      · rcases List.mem_append.mp h with h | h <;> simp [h]
    · have n2 := List.nodup_append.mp n2
      rcases List.mem_append.mp ha with h | h
      · exact n2.2.2 a h a (by simp [z]) rfl
      · have n3 := List.nodup_append.mp n2.2.1
        rcases List.mem_append.mp h with h | h
        · exact n3.2.2 a h a (by simp [z]) rfl
        · have n4 := List.nodup_append.mp n3.2.1
          exact n4.2.2 a z a h rfl
  have old : ∀ a ∈ xs ++ (fpW as1 ++ fpW as2), G a = none ∧ ∃ u, H a = some u ∧ Raw u ∧ H' a = some u ∧ G' a = none := fun a ha => by
    have hin : a ∈ (l :: xs) ++ fpW (as1 ++ (as ++ as2)) := by
      rcases List.mem_append.mp ha with h | h
      · simp [h]
      · rcases List.mem_append.mp h with h | h <;> simp [h]
    obtain ⟨g, u, hu, ht⟩ := W.tame a hin
    refine ⟨g, u, hu, ht, C.fr.h.ap a u (by rw [delF_out (apart a ha)]; exact hu) ht.tame.1, ?_⟩
    cases q : G' a with
    | none => rfl
    | some o =>
      have := C.fr.f a (by rw [q]; simp) g
      rw [hu] at this
      cases this
  have sH : Same (delF H0 fp0) (delF H (l :: fpW as)) := same_delF W.fr.h (fun a ha => by
    rcases W.ow a (hfp a ha) with z | z
    · exact delF_in z
    · by_cases q : a ∈ fp0
      · exact delF_in q
      · rw [delF_out q]; exact z) (fun a ha => let ⟨_, u, hu, ht⟩ := W.tame a (hfp a ha); ⟨u, hu, ht.tame⟩)
  have kp : ∀ b o, H b = some o → (b ∈ fpW as1 ++ fpW as2 ∨ ∃ x, o = .own x) → H' b = some o := fun b o h1 h2 => by
    rcases h2 with h2 | ⟨x, rfl⟩
    · obtain ⟨_, u, hu, _, hu', _⟩ := old b (List.mem_append_right _ h2)
      rw [h1] at hu
      cases hu
      exact hu'
    · refine C.fr.h.ap b _ ?_ own_ntbl
      rw [delF_out]
      · exact h1
      · intro z
        obtain ⟨_, u, hu, ht⟩ := W.tame b (hfp b z)
        rw [h1] at hu
        cases hu
        exact ht.own x rfl
  have ng : ∀ a ∈ fpW as1 ++ fpW as2, G' a = none := fun a ha => (old a (List.mem_append_right _ ha)).2.choose_spec.2.2.2
  have k1 := wa1.keep C.fr.g (H' := H') (fun b o h1 h2 => kp b o h1 (h2.imp (fun h => List.mem_append_left _ h) id)) fun a ha => ng a (List.mem_append_left _ ha)
  have k2 := wa2.keep C.fr.g (H' := H') (fun b o h1 h2 => kp b o h1 (h2.imp (fun h => List.mem_append_right _ h) id)) fun a ha => ng a (List.mem_append_right _ ha)
  -- what is new is apart from what was there
  have fresh : ∀ a ∈ l' :: fpW as', a ∉ xs ++ (fpW as1 ++ fpW as2) := fun a ha z => by
    rcases C.ow a ha with q | q
    · exact apart a z q
    · obtain ⟨_, u, hu, _⟩ := old a z
      rw [q] at hu
      cases hu
  have cn := C.nd
  refine ⟨⟨⟨W.fr.g.trans C.fr.g, C.fr.i, sH.trans C.fr.h, fun b b1 b2 => ?_, fun b hb => W.fr.k b (C.fr.k b hb)⟩, k1.app (C.wa.app k2), ?_, fun a ha => ?_, fun a ha => ?_⟩, fun a ha => ?_⟩
  · cases q : G b with
    | none => exact W.fr.k b (C.fr.f b b1 q)
    | some o => exact W.fr.f b (by rw [q]; simp) b2
  · rw [List.cons_append, List.nodup_cons] at nd
    obtain ⟨_, n2⟩ := nd
    rw [fpW_app, fpW_app] at n2
    obtain ⟨a1, a2, a3⟩ := List.nodup_append.mp n2
    obtain ⟨b1, b2, b3⟩ := List.nodup_append.mp a2
    obtain ⟨c1, c2, c3⟩ := List.nodup_append.mp b2
    have cn : (l' :: fpW as').Nodup := cn
    obtain ⟨d1, d2⟩ := List.nodup_cons.mp cn
    rw [List.cons_append, fpW_app, fpW_app, List.nodup_cons]
    refine ⟨fun z => ?_, List.nodup_append.mpr ⟨a1, List.nodup_append.mpr ⟨b1, List.nodup_append.mpr ⟨d2, c2, fun a ha b hb e => ?_⟩, fun a ha b hb e => ?_⟩, fun a ha b hb e => ?_⟩⟩
    · rcases List.mem_append.mp z with z | z
      · exact fresh l' (by simp) (by simp [z])
      · rcases List.mem_append.mp z with z | z
        · exact fresh l' (by simp) (by simp [z])
        · rcases List.mem_append.mp z with z | z
          · exact d1 z
          · exact fresh l' (by simp) (by simp [z])
    · subst e
      exact fresh a (by simp [ha]) (by simp [hb])
    · subst e
      rcases List.mem_append.mp hb with hb | hb
      · exact fresh a (by simp [hb]) (by simp [ha])
      · exact b3 a ha a (by simp [hb]) rfl
    · subst e
      rcases List.mem_append.mp hb with hb | hb
      · exact a3 a ha a (by simp [hb]) rfl
      · rcases List.mem_append.mp hb with hb | hb
        · exact fresh a (by simp [hb]) (by simp [ha])
        · exact a3 a ha a (by simp [hb]) rfl
  · have : a ∈ l' :: fpW as' ∨ a ∈ xs ++ (fpW as1 ++ fpW as2) := by
      rw [List.cons_append, fpW_app, fpW_app] at ha
      simp only [List.mem_cons, List.mem_append] at ha ⊢
      rcases ha with h | h | h | h | h <;> simp [h]
    rcases this with h | h
    · rcases C.ow a h with q | q
      · exact W.ow a (hfp a q)
      · exact .inr (W.fr.k a q)
    · refine W.ow a ?_
      simp only [List.mem_cons, List.mem_append, fpW_app] at h ⊢
      rcases h with h | h | h <;> simp [h]
  · rcases List.mem_cons.mp ha with rfl | ha
    · exact C.gx _ (by simp)
    · obtain ⟨g, u, hu, ht, hu', g'⟩ := old a (by simp [ha])
      exact ⟨g', u, hu', ht⟩
  · obtain ⟨g, u, hu, ht, hu', g'⟩ := old a (by simp [ha])
    rw [hu, hu']
end
end PL
/-! PL, part ac: ways behind a block. -/
namespace PL
open PySem PySem.Spec PyProof.Rows L2
section
variable {K : PySem.W.Frag} {G0 H0 G H G' H' : Hp} {fp0 : List Addr} {xs : List Addr} {l l' : Addr} {as as' : List (Addr × Addr)} {ws ws' : List WayD}
theorem WG.outer (W : WG K G0 H0 fp0 G H xs as ws) {fp : List Addr} (hfp : ∀ a ∈ fp, a ∈ xs ++ fpW as) : Same (delF H0 fp0) (delF H fp) :=
  same_delF W.fr.h (fun a ha => by
    rcases W.ow a (hfp a ha) with z | z
    · exact delF_in z
    · by_cases q : a ∈ fp0
      · exact delF_in q
      · rw [delF_out q]; exact z) (fun a ha => let ⟨_, u, hu, ht⟩ := W.tame a (hfp a ha); ⟨u, hu, ht.tame⟩)
theorem WG.call0 (W : WG K G0 H0 fp0 G H [l] as ws) (C : WG K G H (l :: fpW as) G' H' [l'] as' ws') : WG K G0 H0 fp0 G' H' [l'] as' ws' := by
  have W' : WG K G0 H0 fp0 G H (l :: []) ([] ++ (as ++ [])) ([] ++ (ws ++ [])) := by simpa using W
  have := (W'.call rfl W.wa.len C).1
  simpa using this
end
/-- the ways behind some deeds, one after another -/
def goA (f : List WayD → PyData → R (List WayD)) : List PyData → List WayD → R (List WayD)
  | [], ws => .ok ws
  | d :: ds, ws => (f ws d).bind (goA f ds)
def gAfter (f : List WayD → PyData → R (List WayD)) (ws : List WayD) (d : PyData) : R (List WayD) := (itemsOf d).bind fun ds => goA f ds ws
theorem items_nx {d : PyData} {c : Nat} : itemsOf d ≠ .ex c := by unfold itemsOf; split <;> intro z <;> cases z
section
variable {P : Program} {w : World} {K : PySem.W.Frag} {mg : Str → Option Value} {base : Heap}
theorem fn_after {ec : Nat → Addr} {x qual : Str} {st : Stmt} {f : Addr} {fd : FuncData} {k : Nat} {g : List WayD → PyData → R (List WayD)} {nm ps : List Str} (F : Fun K x qual st f fd) (S : FnScope nm ps (defScope st)) (hn : nm.length = 3) (hp : ps.length = 2)
    (hbody : ∀ (cdv : Value) (A : Around) (outer : List Env) (s : Shared) (H : Hp) (E : XK), Room k (A.deeper (envOfC qual (defScope st) s.heap.objs.size f cdv)) →
      PSs (cxOf (L2N.CX P w) P w K mg base nm qual (defScope st) f cdv A outer s H E) (defBody st)
        (tSeq (tFor (tDI K ec (fun cls d _ H => E cls d H) (iSeq (eVar 1))) (gName 2) (tAsg (tCallS (spW K ec g) (WE (fun cls d _ H => E cls d H)) (tCons (tVar 0) (tCons (tVar 2) tNil))) (gName 0))) (tRet (tVar 0)))) :
    FnOk P w K mg base (L2N.CX P w) (k + 1) f fd ps (spW K ec (gAfter g)) := by
  obtain ⟨oc, od, kV, doc, pm, an, cdv, ct, osl, rfl, lk, hcd⟩ := F.ex
  refine fn_of lk hcd S (fun vs H Q E h => by rw [h.1, hp]) fun A outer s H vs Q E hr h => ?_
  obtain ⟨hl, l, vb, G, as, ws, d, rfl, t, i, gl, nd, wa, hls, rb, p⟩ := h
  refine ⟨_, hbody cdv A outer s H E hr, ?_⟩
  have s0 : (start nm [V.ref l, vb])[0]? = some (some (V.ref l)) := by unfold L2.start; simp
  have s1 : (start nm [V.ref l, vb])[1]? = some (some vb) := by unfold L2.start; simp
  have sl : (start nm [V.ref l, vb]).length = 3 := by unfold L2.start; simp [hn]
  generalize start nm [V.ref l, vb] = σ at *
  have W0 := wg_start i gl nd wa hls
  have E0 : EnvR K G σ [none, some d, none] := ⟨t, by rw [sl]; simp, fun j e q => by
    match j, q with
    | 0, q => cases q
    | 1, q => cases q; exact ⟨vb, s1, rb⟩
    | 2, q => cases q
    | j + 3, q => simp at q⟩
  refine ⟨G, _, i, E0, ?_⟩
  have ei : iSeq (eVar 1) [none, some d, none] = itemsOf d := rfl
  rw [ei]
  unfold gAfter at p
  cases q : itemsOf d with
  | ex c => exact absurd q items_nx
  | no => rw [q] at p; exact p.elim
  | ok ds =>
    rw [q, R.bind_ok] at p
    intro J G1 H1 e1 wd
    have wk : Walk J ds.length (fun H => Same G1 H) (fun i H x H' => ∀ Gc d, ds[i]? = some d → Same G1 Gc → Same Gc H → ∃ Gc', Ext Gc H Gc' H' ∧ Rep K Gc' x d) :=
      ⟨fun i H hi s => wd.go i H hi s, fun H s => wd.stop H s, fun i H x H' hi s y Gc d hd s1 s2 => wd.yld i Gc H x H' d hd s1 s2 y⟩
    refine for_it wk (fun i σ H2 => ∃ G2 l2 as2 ws2, Same G1 G2 ∧ WG K G H (l :: fpW as) G2 H2 [l2] as2 ws2 ∧ H2 l2 = some (.lst (as2.map fun p => V.ref p.1)) ∧ σ[0]? = some (some (.ref l2)) ∧ σ.length = 3 ∧ PostW K ec G H (l :: fpW as) Q E (goA g (ds.drop i) ws2))
      ⟨G1, l, as, ws, Same.refl _, W0.ext e1, e1.h.lst hls, s0, sl, p⟩ ?_ ?_ ?_
    · rintro i σ H2 _ ⟨G2, l2, as2, ws2, g2, W2, _⟩
      exact g2.trans W2.fr.i
    · rintro i x σ H2 H2' hi ⟨G2, l2, as2, ws2, g2, W2, hl2, hs, hsl, p2⟩ y
      have hd : ds[i]? = some ds[i] := by simp [hi]
      obtain ⟨G3, e3, r3⟩ := y G2 ds[i] hd g2 W2.fr.i
      have W3 := W2.ext e3
      rw [List.drop_eq_getElem_cons hi, goA] at p2
      refine ⟨.ref l2, ?_, x, ?_, rfl, l2, x, G3, as2, ws2, ds[i], rfl, t.mono (W3.fr.g), W3.fr.i, (W3.gx l2 (by simp)).1, W3.nd, W3.wa, e3.h.lst hl2, r3, ?_⟩
      · rw [List.getElem?_set_ne (by decide)]; exact hs
      · rw [List.getElem?_set_self (by omega)]
      · cases qg : g ws2 ds[i] with
        | no => rw [qg] at p2; exact p2.elim
        | ex c =>
          rw [qg] at p2
          exact fun H' s => p2 H' ((W3.outer (fp := l2 :: fpW as2) fun a ha => ha).trans s)
        | ok ws' =>
          rw [qg, R.bind_ok] at p2
          intro G' H' l' as' C hl'
          refine ⟨G', l', as', ws', (g2.trans e3.g).trans C.fr.g, W3.call0 C, hl', ?_, by simp [hsl], p2⟩
          rw [List.getElem?_set_self (by simp [hsl])]
    · rintro σ H2 ⟨G2, l2, as2, ws2, g2, W2, hl2, hs, hsl, p2⟩
      rw [List.drop_length] at p2
      exact ⟨.ref l2, hs, p2 G2 H2 l2 as2 W2 hl2⟩
end
end PL
/-! PL, part ad: a way is made; one with a number drawn; a term's worth by a way's names. -/
namespace PL
open PySem PySem.Spec PyProof.Rows L2
/-- what is known of the class of ways -/
structure WayC (K : PySem.W.Frag) (C : Addr) : Prop where
  at' : PySem.W.nsIn K mainGlobals (Str.ofString "Way") = some (some (.ref C))
  c : Cls K C
  n1 : NoAttr K C (Str.ofString "names")
  n2 : NoAttr K C (Str.ofString "trail")
  n3 : NoAttr K C (Str.ofString "steps")
  n4 : NoAttr K C (Str.ofString "share")
theorem putF_len (f : Str) (v : V) : ∀ fs : List (Str × V), (putF f v fs).length ≤ fs.length + 1
  | [] => by simp [putF]
  | (g, x) :: r => by
    unfold putF
    split
    · simp
    · simp only [List.length_cons]
      have := putF_len f v r
      omega
def spWi (C : Addr) : Sp := fun vs H Q _ => ∃ x dx v1 v2 v3 v4, vs = [.ref x, v1, v2, v3, v4] ∧ H x = some (.ins C dx []) ∧ Q .non (upd H x (.ins C dx [(Str.ofString "names", v1), (Str.ofString "trail", v2), (Str.ofString "steps", v3), (Str.ofString "share", v4)]))
section
variable {P : Program} {w : World} {K : PySem.W.Frag} {mg : Str → Option Value} {base : Heap}
theorem fn_winit {qual : Str} {st : Stmt} {f C : Addr} {fd : FuncData} {k : Nat} {nm ps : List Str} (F : Fun K "__init__" qual st f fd) (S : FnScope nm ps (defScope st)) (hp : ps.length = 5) (Wc : WayC K C)
    (hbody : ∀ (cdv : Value) (A : Around) (outer : List Env) (s : Shared) (H : Hp) (E : XK), PSs (cxOf (L2N.CX P w) P w K mg base nm qual (defScope st) f cdv A outer s H E) (defBody st)
      (tSeq (sFld K (tVar 0) (tVar 1) (Str.ofString "names")) (tSeq (sFld K (tVar 0) (tVar 2) (Str.ofString "trail")) (tSeq (sFld K (tVar 0) (tVar 3) (Str.ofString "steps")) (sFld K (tVar 0) (tVar 4) (Str.ofString "share")))))) :
    FnOk P w K mg base (L2N.CX P w) (k + 1) f fd ps (spWi C) := by
  obtain ⟨oc, od, kV, doc, pm, an, cdv, ct, osl, rfl, lk, hcd⟩ := F.ex
  refine fn_of lk hcd S (fun vs H Q E h => by obtain ⟨_, _, _, _, _, _, rfl, _⟩ := h; rw [hp]; rfl) fun A outer s H vs Q E hr h => ?_
  obtain ⟨x, dx, v1, v2, v3, v4, rfl, hx, q⟩ := h
  refine ⟨_, hbody cdv A outer s H E, ?_⟩
  have hs : ∀ i v, [V.ref x, v1, v2, v3, v4][i]? = some v → (start nm [V.ref x, v1, v2, v3, v4])[i]? = some (some v) := fun i v h => by
    unfold L2.start
    have hi : i < 5 := by have := (List.getElem?_eq_some_iff.mp h).1; simpa using this
    rw [List.getElem?_append_left (by simpa using hi), List.getElem?_map, h]
    rfl
  generalize start nm [V.ref x, v1, v2, v3, v4] = σ at *
  have s0 := hs 0 _ rfl
  refine ⟨v1, hs 1 _ rfl, .ref x, s0, x, C, dx, _, rfl, hx, Wc.c, Wc.n1, by simp, ?_⟩
  refine ⟨v2, hs 2 _ rfl, .ref x, s0, x, C, dx, _, rfl, upd_same, Wc.c, Wc.n2, Nat.lt_of_le_of_lt (putF_len _ _ _) (by simp), ?_⟩
  refine ⟨v3, hs 3 _ rfl, .ref x, s0, x, C, dx, _, rfl, upd_same, Wc.c, Wc.n3, Nat.lt_of_le_of_lt (Nat.le_trans (putF_len _ _ _) (Nat.succ_le_succ (putF_len _ _ _))) (by simp), ?_⟩
  refine ⟨v4, hs 4 _ rfl, .ref x, s0, x, C, dx, _, rfl, upd_same, Wc.c, Wc.n4, Nat.lt_of_le_of_lt (Nat.le_trans (putF_len _ _ _) (Nat.succ_le_succ (Nat.le_trans (putF_len _ _ _) (Nat.succ_le_succ (putF_len _ _ _))))) (by simp), ?_⟩
  rw [upd_upd, upd_upd, upd_upd]
  have d12 : ¬ (Str.ofString "names" = Str.ofString "trail") := by decide
  have d13 : ¬ (Str.ofString "names" = Str.ofString "steps") := by decide
  have d14 : ¬ (Str.ofString "names" = Str.ofString "share") := by decide
  have d23 : ¬ (Str.ofString "trail" = Str.ofString "steps") := by decide
  have d24 : ¬ (Str.ofString "trail" = Str.ofString "share") := by decide
  have d34 : ¬ (Str.ofString "steps" = Str.ofString "share") := by decide
  simp only [putF, d12, d13, d14, d23, d24, d34, if_false]
  exact q
theorem lk_names (nd : Addr) (vt : V) (n : Int) (vs : V) : (fdW nd vt n vs).lookup (Str.ofString "names") = some (.ref nd) := by simp [fdW, List.lookup]
theorem lk_trail (nd : Addr) (vt : V) (n : Int) (vs : V) : (fdW nd vt n vs).lookup (Str.ofString "trail") = some vt := by
  have e1 : (Str.ofString "trail" == Str.ofString "names") = false := by decide
  simp [fdW, List.lookup, e1]
theorem lk_steps (nd : Addr) (vt : V) (n : Int) (vs : V) : (fdW nd vt n vs).lookup (Str.ofString "steps") = some (.int n) := by
  have e1 : (Str.ofString "steps" == Str.ofString "names") = false := by decide
  have e2 : (Str.ofString "steps" == Str.ofString "trail") = false := by decide
  simp [fdW, List.lookup, e1, e2]
theorem lk_share (nd : Addr) (vt : V) (n : Int) (vs : V) : (fdW nd vt n vs).lookup (Str.ofString "share") = some vs := by
  have e1 : (Str.ofString "share" == Str.ofString "names") = false := by decide
  have e2 : (Str.ofString "share" == Str.ofString "trail") = false := by decide
  have e3 : (Str.ofString "share" == Str.ofString "steps") = false := by decide
  simp [fdW, List.lookup, e1, e2, e3]
/-- the way with a number drawn -/
noncomputable def drw1 (g : List PyData → R PyData) (wd : WayD) (nm : Str) (n m : Int) : R WayD := (g [wd.share, .tuple [.int 1, .int m]]).bind fun s => if wd.names.length < szl then .ok ⟨dPut wd.names (.inr nm) (.int n), wd.trail, wd.steps, s⟩ else .no
def PostDr (K : PySem.W.Frag) (G H : Hp) (Q : VK) : R WayD → Prop
  | .ok wd => ∀ G' H' p, Ext G H G' H' → WayA K G' H' p wd → H p.1 = none → H p.2 = none → p.1 ≠ p.2 → Q (.ref p.1) H'
  | _ => False
def spDr (K : PySem.W.Frag) (g : List PyData → R PyData) : Sp := fun vs H Q _ => ∃ (p : Addr × Addr) (nm : Str) (n m : Int) (G : Hp) (wd : WayD), vs = [.ref p.1, .str nm, .int n, .int m] ∧ Tbs G ∧ Same G H ∧ WayA K G H p wd ∧ PostDr K G H Q (drw1 g wd nm n m)
theorem fn_drawn {ec : Nat → Addr} {qual : Str} {st : Stmt} {f C : Addr} {fd : FuncData} {k : Nat} {nm ps : List Str} {g : List PyData → R PyData} (F : Fun K "drawn" qual st f fd) (S : FnScope nm ps (defScope st)) (hp : ps.length = 4) (hnm : nm.length = 5) (Wc : WayC K C)
    (hbody : ∀ (cdv : Value) (A : Around) (outer : List Env) (s : Shared) (H : Hp) (E : XK), Room k (A.deeper (envOfC qual (defScope st) s.heap.objs.size f cdv)) → PSs (cxOf (L2N.CX P w) P w K mg base nm qual (defScope st) f cdv A outer s H E) (defBody st)
      (tSeq (tAsg (tCB rDictC (tCons (tFld K (tVar 0) (Str.ofString "names")) tNil)) (gName 4)) (tSeq (sDPut (tVar 4) (tVar 1) (tVar 2)) (tRet (tMake C (spWi C) [] E (tCons (tVar 4) (tCons (tFld K (tVar 0) (Str.ofString "trail")) (tCons (tFld K (tVar 0) (Str.ofString "steps")) (tCons (tCallS (spP K ec 2 g) (WE (fun cls d _ H => E cls d H)) (tCons (tFld K (tVar 0) (Str.ofString "share")) (tCons (tTup (tCons (tC (.int 1)) (tCons (tVar 3) tNil))) tNil))) tNil))))))))) :
    FnOk P w K mg base (L2N.CX P w) (k + 1) f fd ps (spDr K g) := by
  obtain ⟨oc, od, kV, doc, pm, an, cdv, ct, osl, rfl, lk, hcd⟩ := F.ex
  refine fn_of lk hcd S (fun vs H Q E h => by obtain ⟨_, _, _, _, _, _, rfl, _⟩ := h; rw [hp]; rfl) fun A outer s H vs Q E hr h => ?_
  obtain ⟨p, nam, n, m, G, wd, rfl, tb, i, wa, po⟩ := h
  refine ⟨_, hbody cdv A outer s H E hr, ?_⟩
  obtain ⟨C', dx, vt, vs, kvs, hC, a1, a2, a3, nd, rk, rt, rs, g1, g2⟩ := id wa
  rw [Wc.at'] at hC
  cases hC
  have hs : ∀ i v, [V.ref p.1, V.str nam, V.int n, V.int m][i]? = some v → (start nm [V.ref p.1, V.str nam, V.int n, V.int m])[i]? = some (some v) := fun i v h => by
    unfold L2.start
    have hi : i < 4 := by have := (List.getElem?_eq_some_iff.mp h).1; simpa using this
    rw [List.getElem?_append_left (by simpa using hi), List.getElem?_map, h]
    rfl
  have hlen : (start nm [V.ref p.1, V.str nam, V.int n, V.int m]).length = 5 := by unfold L2.start; simp [hnm]
  generalize start nm [V.ref p.1, V.str nam, V.int n, V.int m] = σ at *
  have t1 : ∀ i v, i < 4 → σ[i]? = some (some v) → ∀ u : Option V, (σ.set 4 u)[i]? = some (some v) := fun i v hi h u => by rw [List.getElem?_set_ne (by omega)]; exact h
  have t4 : ∀ u : Option V, (σ.set 4 u)[4]? = some u := fun u => by rw [List.getElem?_set_self (by omega)]
  unfold drw1 at po
  cases qg : g [wd.share, .tuple [.int 1, .int m]] with
  | no => rw [qg] at po; exact po.elim
  | ex c => rw [qg] at po; exact po.elim
  | ok sh =>
    rw [qg, R.bind_ok] at po
    split at po
    · rename_i hz
      refine ⟨.ref p.1, hs 0 _ rfl, p.1, C, dx, _, _, rfl, a1, Wc.c, Wc.n1, lk_names _ _ _ _, p.2, kvs, rfl, .inl a3, fun l4 n4 => ?_⟩
      -- names[name] = number
      have zl : kvs.length < sizeLine := Nat.lt_of_lt_of_le (by rw [rk.len]; exact hz) (szl_line (Nat.le_refl _))
      refine ⟨.int n, t1 2 _ (by decide) (hs 2 _ rfl) _, .ref l4, t4 _, .str nam, t1 1 _ (by decide) (hs 1 _ rfl) _, l4, _, rfl, DPut.k (k := .inr nam) upd_same zl, ?_⟩
      rw [upd_upd]
      have e1 : Ext G H G (upd H l4 (.dK (putK kvs (.inr nam) (V.int n)))) := Ext.heap i (same_new n4)
      have h4 : upd H l4 (.dK (putK kvs (.inr nam) (V.int n))) l4 = some (.dK (putK kvs (.inr nam) (V.int n))) := upd_same
      have gl4 : G l4 = none := i.free n4
      generalize upd H l4 (.dK (putK kvs (.inr nam) (V.int n))) = H2 at *
      have a1' : H2 p.1 = some (.ins C dx (fdW p.2 vt wd.steps vs)) := e1.h.ap _ _ a1 fun _ z => by cases z
      refine ⟨.ref l4, t4 _, .ref p.1, t1 0 _ (by decide) (hs 0 _ rfl) _, p.1, C, dx, _, vt, rfl, a1', Wc.c, Wc.n2, lk_trail _ _ _ _, ?_⟩
      refine ⟨.ref p.1, t1 0 _ (by decide) (hs 0 _ rfl) _, p.1, C, dx, _, .int wd.steps, rfl, a1', Wc.c, Wc.n3, lk_steps _ _ _ _, ?_⟩
      refine ⟨.ref p.1, t1 0 _ (by decide) (hs 0 _ rfl) _, p.1, C, dx, _, vs, rfl, a1', Wc.c, Wc.n4, lk_share _ _ _ _, ?_⟩
      refine ⟨.int m, t1 3 _ (by decide) (hs 3 _ rfl) _, by simp [sizeLine_eq], fun q nq => ?_⟩
      have e2 : Ext G H2 (upd G q (.tup [.int 1, .int m])) (upd H2 q (.tup [.int 1, .int m])) := Ext.new e1.i nq
      have rtp : Rep K (upd G q (.tup [.int 1, .int m])) (.ref q) (.tuple [.int 1, .int m]) := .tup (.inl (.inl upd_same)) (.cons (.int 1) (.cons (.int m) .nil))
      refine ⟨rfl, _, [wd.share, .tuple [.int 1, .int m]], tb.mono e2.g, e2.i, .cons (rs.mono e2.g) (.cons rtp .nil), ?_⟩
      rw [qg]
      intro v G4 H4 e3 rv x dx' nx ndx hne
      refine ⟨x, dx', .ref l4, vt, .int wd.steps, v, rfl, upd_same, rfl, ?_⟩
      rw [upd_upd]
      have s1 : Same H4 (upd H4 dx' (.own x)) := same_new ndx
      have nx1 : upd H4 dx' (.own x) x = none := by rw [upd_ne (Ne.symm hne)]; exact nx
      have s2 : Same (upd H4 dx' (.own x)) (upd (upd H4 dx' (.own x)) x (.ins C dx' (fdW l4 vt wd.steps v))) := same_new nx1
      have e4 : Ext G4 H4 G4 (upd (upd H4 dx' (.own x)) x (.ins C dx' (fdW l4 vt wd.steps v))) := Ext.heap e3.i (s1.trans s2)
      have hx : upd (upd H4 dx' (.own x)) x (.ins C dx' (fdW l4 vt wd.steps v)) x = some (.ins C dx' (fdW l4 vt wd.steps v)) := upd_same
      have hdx : upd (upd H4 dx' (.own x)) x (.ins C dx' (fdW l4 vt wd.steps v)) dx' = some (.own x) := by rw [upd_ne hne, upd_same]
      have e23 := e2.trans e3
      have g4 : G4 l4 = none := e23.clean gl4 h4
      have h44 : H4 l4 = some (.dK (putK kvs (.inr nam) (V.int n))) := e23.h.dK h4
      refine po G4 _ (x, l4) ((e1.trans e23).trans e4) ⟨C, dx', vt, v, _, Wc.at', hx, hdx, (s1.trans s2).dK h44, putK_keys nd, (rk.mono e23.g).put _ (.int n), rt.mono e23.g, rv, e3.i.free nx, g4⟩ ?_ n4 fun z => ?_
      · exact e1.h.free (e23.h.free nx)
      · have z : x = l4 := z
        rw [z, h44] at nx
        cases nx
    · exact po.elim
end
end PL
/-! PL, part ae: ways behind a deed. -/
namespace PL
open PySem PySem.Spec PyProof.Rows L2
/-- worth(e, way.names): a number, by the way's names -/
def tWo (K : PySem.W.Frag) (g : List PyData → R PyData) (iw : Nat) (fe : EF) : TE := fun σ H Q => ∃ (G : Hp) (env : List (Option PyData)) (p : Addr × Addr) (wd : WayD) (dt : PyData) (n : Int), Same G H ∧ EnvR K G σ env ∧ σ[iw]? = some (some (.ref p.1)) ∧ WayA K G H p wd ∧ fe env = .ok dt ∧ g [dt, .dict wd.names] = .ok (.int n) ∧ ∀ H', Same H H' → Q (.int n) H'
section
variable {X : Cx} {ec : Nat → Addr} {W : WX} {e : Expr} {fe : EF} {pos p0 p1 p2 : Pos} {x wn : Str} {k iw : Nat} {g : List PyData → R PyData} {C : Addr}
theorem pe_worth (Ca : Cal X.prog X.w X.K X.mg X.base ec wn 2 k g) (Wc : WayC X.K C) (tk : L2N.Takes X W) (hr : Room k X.A) (hg : Gl X wn) (he : PE X e (tD X.K ec W fe)) (hw : PE X (.Name x p1) (tVar iw)) (hb2 : attributeBase (.Name x p1) (Str.ofString "names") X.env (eval (.Name x p1) X.env) = eval (.Name x p1) X.env := by rfl) (hdb : (wn == ("__debug__" : Str)) = false := by decide)
    (hst : starEach [e, .Attribute (.Name x p1) (Str.ofString "names") p2] X.env = (false, eval e X.env) :: starEach [.Attribute (.Name x p1) (Str.ofString "names") p2] X.env := by rfl) (hst2 : starEach [.Attribute (.Name x p1) (Str.ofString "names") p2] X.env = (false, eval (.Attribute (.Name x p1) (Str.ofString "names") p2) X.env) :: starEach [] X.env := by rfl)
    (hpl : (backTo pos (starEach [.Attribute (.Name x p1) (Str.ofString "names") p2] X.env)).any (·.1) = false := by rfl) :
    PE X (.Call (.Name wn p0) [e, .Attribute (.Name x p1) (Str.ofString "names") p2] [] pos) (tWo X.K g iw fe) := by
  obtain ⟨f, fd, ps, F, hm, hk, hb⟩ := Ca.ex
  refine PE_imp (pe_callS (E := WE W) F hr hg hm hk hb (fun σ => L2N.passAt tk σ) (pa_cons he (pa_cons (pe_fld hw hb2) pa_nil hst2) hst) hdb hst hpl) fun σ H Q h => ?_
  obtain ⟨G, env, p, wd, dt, n, s, E, hs, wa, hf, hg', q⟩ := h
  refine ⟨G, env, s, E, ?_⟩
  rw [hf]
  intro v G1 H1 e1 r1
  obtain ⟨C', dx, vt, vs, kvs, hC, a1, a2, a3, nd, rk, rt, rs, g1, g2⟩ := id wa
  rw [Wc.at'] at hC
  cases hC
  refine ⟨.ref p.1, hs, p.1, C, dx, _, .ref p.2, rfl, e1.h.ap _ _ a1 (fun _ z => by cases z), Wc.c, Wc.n1, lk_names _ _ _ _, ?_⟩
  have a3' : H1 p.2 = some (.dK kvs) := e1.h.dK a3
  have gp : G1 p.2 = none := e1.clean g2 a3
  have sg : Same G1 (upd G1 p.2 (.dK kvs)) := same_new gp
  refine ⟨rfl, upd G1 p.2 (.dK kvs), [dt, .dict wd.names], (E.tb.mono e1.g).mono sg, same_in e1.i a3' (tame_dK _), .cons (r1.mono sg) (.cons (.dct upd_same nd (rk.mono (e1.g.trans sg))) .nil), ?_⟩
  rw [hg']
  intro v2 G2 H2 e2 r2
  cases r2
  exact q H2 (e1.h.trans e2.h)
end
/-! ### the names change, the trail grows -/
theorem putF_trail {nd : Addr} {vt vt' : V} {n : Int} {vs : V} : putF (Str.ofString "trail") vt' (fdW nd vt n vs) = fdW nd vt' n vs := by
  have d : ¬ (Str.ofString "names" = Str.ofString "trail") := by decide
  simp [fdW, putF, d]
theorem putF_steps {nd : Addr} {vt : V} {n n' : Int} {vs : V} : putF (Str.ofString "steps") (.int n') (fdW nd vt n vs) = fdW nd vt n' vs := by
  have d1 : ¬ (Str.ofString "names" = Str.ofString "steps") := by decide
  have d2 : ¬ (Str.ofString "trail" = Str.ofString "steps") := by decide
  simp [fdW, putF, d1, d2]
section
variable {K : PySem.W.Frag} {G0 H0 G H : Hp} {fp0 xs : List Addr} {as1 as2 : List (Addr × Addr)} {p : Addr × Addr} {ws1 ws2 : List WayD} {wd : WayD}
/-- one of the ways is written at its own objects -/
theorem WG.one (W : WG K G0 H0 fp0 G H xs (as1 ++ (p :: as2)) (ws1 ++ (wd :: ws2))) (hl : as1.length = ws1.length) {a : Addr} {o : HO} {wd' : WayD} (ha : a = p.1 ∨ a = p.2) (ho : Raw o) (wa : WayA K G (upd H a o) p wd') : WG K G0 H0 fp0 G (upd H a o) xs (as1 ++ (p :: as2)) (ws1 ++ (wd' :: ws2)) := by
  obtain ⟨w1, wr⟩ := W.wa.split hl
  obtain ⟨w0, w2⟩ : WayA K G H p wd ∧ WaysA K G H as2 ws2 := by
    cases wr with
    | cons a b => exact ⟨a, b⟩
  have hin : a ∈ xs ++ fpW (as1 ++ (p :: as2)) := by
    rcases ha with rfl | rfl <;> simp
  obtain ⟨_, u, hu, hraw⟩ := W.tame a hin
  have nd := W.nd
  rw [fpW_app, fpW_cons] at nd
  obtain ⟨_, nd2, _⟩ := List.nodup_append.mp nd
  obtain ⟨_, nd3, nd4⟩ := List.nodup_append.mp nd2
  have n5 := List.nodup_cons.mp nd3
  have n6 := List.nodup_cons.mp n5.2
  have o1 : ∀ b ∈ fpW as1, b ≠ a := fun b hb z => by
    rcases ha with rfl | rfl
    · exact nd4 b hb p.1 (by simp) z
    · exact nd4 b hb p.2 (by simp) z
  have o2 : ∀ b ∈ fpW as2, b ≠ a := fun b hb z => by
    subst z
    rcases ha with e | e
    · rw [e] at hb; exact n5.1 (by simp [hb])
    · rw [e] at hb; exact n6.1 hb
  have kp : ∀ {as : List (Addr × Addr)} {ws : List WayD}, WaysA K G H as ws → (∀ b ∈ fpW as, b ≠ a) → WaysA K G (upd H a o) as ws := fun {as ws} w h => w.keep (Same.refl _) (fun b o' h1 h2 => by
    rw [upd_ne]
    · exact h1
    · rcases h2 with h2 | ⟨x, rfl⟩
      · exact h b h2
      · intro z
        subst z
        rw [h1] at hu
        cases hu
        exact hraw.own x rfl) fun b hb => (w.tame b hb).1
  exact W.put hin ho ((kp w1 o1).app (.cons wa (kp w2 o2)))
theorem WG.mid (W : WG K G0 H0 fp0 G H xs (as1 ++ (p :: as2)) (ws1 ++ (wd :: ws2))) (hl : as1.length = ws1.length) : WayA K G H p wd := by
  obtain ⟨w1, wr⟩ := W.wa.split hl
  cases wr with
  | cons a b => exact a
/-- a step more -/
theorem WG.step (W : WG K G0 H0 fp0 G H xs (as1 ++ (p :: as2)) (ws1 ++ (wd :: ws2))) (hl : as1.length = ws1.length) {C dx : Addr} {vt vs : V} {n : Int} (h1 : H p.1 = some (.ins C dx (fdW p.2 vt wd.steps vs))) : WG K G0 H0 fp0 G (upd H p.1 (.ins C dx (putF (Str.ofString "steps") (.int n) (fdW p.2 vt wd.steps vs)))) xs (as1 ++ (p :: as2)) (ws1 ++ ({ wd with steps := n } :: ws2)) := by
  have wa := W.mid hl
  obtain ⟨C', dx', vt', vs', kvs, hC, a1, a2, a3, nd, rk, rt, rs, g1, g2⟩ := wa
  rw [h1] at a1
  cases a1
  have n1 : dx ≠ p.1 := fun z => by rw [z, h1] at a2; cases a2
  have n2 : p.2 ≠ p.1 := fun z => by rw [z, h1] at a3; cases a3
  refine W.one hl (.inl rfl) raw_ins ⟨C, dx, vt, vs, kvs, hC, by rw [upd_same, putF_steps], by rw [upd_ne n1]; exact a2, by rw [upd_ne n2]; exact a3, nd, rk, rt, rs, g1, g2⟩
theorem WG.trail (W : WG K G0 H0 fp0 G H xs (as1 ++ (p :: as2)) (ws1 ++ (wd :: ws2))) (hl : as1.length = ws1.length) {C dx : Addr} {vt vs vt' : V} {tr : List PyData} (h1 : H p.1 = some (.ins C dx (fdW p.2 vt wd.steps vs))) (r : Rep K G vt' (.tuple tr)) : WG K G0 H0 fp0 G (upd H p.1 (.ins C dx (putF (Str.ofString "trail") vt' (fdW p.2 vt wd.steps vs)))) xs (as1 ++ (p :: as2)) (ws1 ++ ({ wd with trail := tr } :: ws2)) := by
  have wa := W.mid hl
  obtain ⟨C', dx', vt2, vs', kvs, hC, a1, a2, a3, nd, rk, rt, rs, g1, g2⟩ := wa
  rw [h1] at a1
  cases a1
  have n1 : dx ≠ p.1 := fun z => by rw [z, h1] at a2; cases a2
  have n2 : p.2 ≠ p.1 := fun z => by rw [z, h1] at a3; cases a3
  refine W.one hl (.inl rfl) raw_ins ⟨C, dx, vt', vs, kvs, hC, by rw [upd_same, putF_trail], by rw [upd_ne n1]; exact a2, by rw [upd_ne n2]; exact a3, nd, rk, r, rs, g1, g2⟩
theorem WG.name (W : WG K G0 H0 fp0 G H xs (as1 ++ (p :: as2)) (ws1 ++ (wd :: ws2))) (hl : as1.length = ws1.length) {kvs : List (Key × V)} {k : Key} {v : V} {d : PyData} (h1 : H p.2 = some (.dK kvs)) (r : Rep K G v d) : WG K G0 H0 fp0 G (upd H p.2 (.dK (putK kvs k v))) xs (as1 ++ (p :: as2)) (ws1 ++ ({ wd with names := dPut wd.names k d } :: ws2)) := by
  have wa := W.mid hl
  obtain ⟨C', dx', vt2, vs', kvs', hC, a1, a2, a3, nd, rk, rt, rs, g1, g2⟩ := wa
  rw [h1] at a3
  cases a3
  have n1 : dx' ≠ p.2 := fun z => by rw [z, h1] at a2; cases a2
  have n2 : p.1 ≠ p.2 := fun z => by rw [z, h1] at a1; cases a1
  exact W.one hl (.inr rfl) (raw_dK _) ⟨C', dx', vt2, vs', _, hC, by rw [upd_ne n2]; exact a1, by rw [upd_ne n1]; exact a2, upd_same, putK_keys nd, rk.put k r, rt, rs, g1, g2⟩
end

/-! ### one way behind a deed -/
def R.b0 {α β : Type} : R α → (α → R β) → R β
  | .ok a, k => k a
  | _, _ => .no
theorem R.b0_ok {α β : Type} {r : R α} {k : α → R β} {b : β} (h : r.b0 k = .ok b) : ∃ a, r = .ok a ∧ k a = .ok b := by
  cases r with
  | ok a => exact ⟨a, rfl, h⟩
  | ex c => cases h
  | no => cases h
/-- the slots of after_deed, as far as they are data -/
def denv (d : PyData) : List (Option PyData) := [none, some d, none, none, none, none]
theorem denv_ok {K : PySem.W.Frag} {G : Hp} {σ : L2.St} {vd : V} {d : PyData} (t : Tbs G) (hl : σ.length = 6) (h1 : σ[1]? = some (some vd)) (r : Rep K G vd d) : EnvR K G σ (denv d) := ⟨t, by rw [hl]; simp [denv], fun j e q => by
  match j, q with
  | 0, q => cases q
  | 1, q => cases q; exact ⟨vd, h1, r⟩
  | 2, q => cases q
  | 3, q => cases q
  | 4, q => cases q
  | 5, q => cases q
  | j + 6, q => simp [denv] at q⟩
abbrev eD (i : Int) : EF := eBin dIx (eVar 1) (eC (.int i))
abbrev eDl : EF := eBin dIx (eVar 1) (eUn dNeg (eC (.int 1)))
abbrev bD (x : Str) : TF := bVal (eBin dEq (eD 0) (eC (.str x)))
noncomputable def onePS (g : List PyData → R PyData) (d : PyData) (wd : WayD) : R WayD := (eDl (denv d)).b0 fun term => (g [term, .dict wd.names]).b0 fun n => match n with
  | .int n => (bD "put" (denv d)).b0 fun b => if b = true then (eD 1 (denv d)).b0 fun k => match keyOf k with
      | some kk => if wd.names.length < szl then .ok { wd with names := dPut wd.names kk (.int n) } else .no
      | none => .no
    else if wd.trail.length + 1 ≤ szl then .ok { wd with trail := wd.trail ++ [.int n] } else .no
  | _ => .no
/-- found.append(way); number = worth(..); the names or the trail are written -/
def rdPS (K : PySem.W.Frag) (ec : Nat → Addr) (W : WX) (g : List PyData → R PyData) (rc : R2) : TS := tSeq (tDrop (tBM K "list" rAppend (tVar 3) (tCons (tVar 2) tNil))) (tSeq (tAsg (tWo K g 2 eDl) (gName 5))
  (tIfS (tDT K ec W (bD "put")) (sDPut (tFld K (tVar 2) (Str.ofString "names")) (tD K ec W (eD 1)) (tVar 5)) (sFld K (tVar 2) (tOp rc (tFld K (tVar 2) (Str.ofString "trail")) (tTup (tCons (tVar 5) tNil))) (Str.ofString "trail"))))
section
variable {K : PySem.W.Frag} {ec : Nat → Addr} {W : WX} {G0 H0 G H : Hp} {fp0 : List Addr} {as1 as2 : List (Addr × Addr)} {p : Addr × Addr} {ws1 ws2 : List WayD} {wd wd' : WayD} {lf l C : Addr} {ls : List V} {σ : L2.St} {vd : V} {d : PyData} {D : Ends} {g : List PyData → R PyData}
theorem ps_way (Wc : WayC K C) (Wg : WG K G0 H0 fp0 G H [lf, l] (as1 ++ (p :: as2)) (ws1 ++ (wd :: ws2))) (hl : as1.length = ws1.length) (hf : H lf = some (.lst (as1.map fun p => V.ref p.1))) (hll : H l = some (.lst ls)) (t : Tbs G) (hσ : σ.length = 6) (h1 : σ[1]? = some (some vd)) (h2 : σ[2]? = some (some (.ref p.1))) (h3 : σ[3]? = some (some (.ref lf))) (rd : Rep K G vd d) (hz : as1.length < szl) (hr : onePS g d wd = .ok wd')
    (hD : ∀ σ' G' H', Same G G' → WG K G0 H0 fp0 G' H' [lf, l] (as1 ++ (p :: as2)) (ws1 ++ (wd' :: ws2)) → H' lf = some (.lst ((as1 ++ [p]).map fun p => V.ref p.1)) → H' l = some (.lst ls) → σ'.length = 6 → (∀ i, i ≠ 5 → σ'[i]? = σ[i]?) → D.nx σ' H') :
    rdPS K ec W g (rCatA K) D σ H := by
  have hlf : lf ≠ l := by
    have := Wg.nd
    simp at this
    exact this.1.1
  unfold rdPS
  refine ⟨.ref lf, h3, .inl ⟨rfl, _, SqL.of hf⟩, .ref p.1, h2, lf, _, _, rfl, rfl, hf, Nat.lt_of_lt_of_le (by rw [List.length_map]; exact hz) (szl_line (Nat.le_refl _)), ?_⟩
  have W1 : WG K G0 H0 fp0 G (upd H lf (.lst (as1.map (fun p => V.ref p.1) ++ [V.ref p.1]))) [lf, l] (as1 ++ (p :: as2)) (ws1 ++ (wd :: ws2)) := by
    refine Wg.put (by simp) (raw_lst _) (Wg.wa.keep (Same.refl _) (fun b o e1 e2 => ?_) fun a ha => (Wg.wa.tame a ha).1)
    rw [upd_ne]
    · exact e1
    · rintro rfl
      rcases e2 with e2 | ⟨x, rfl⟩
      · have := Wg.nd
        simp only [List.cons_append, List.nil_append, List.nodup_cons, List.mem_cons] at this
        exact this.1 (.inr e2)
      · rw [hf] at e1
        cases e1
  have f1 : upd H lf (.lst (as1.map (fun p => V.ref p.1) ++ [V.ref p.1])) lf = some (.lst ((as1 ++ [p]).map fun p => V.ref p.1)) := by rw [upd_same]; simp
  have l1 : upd H lf (.lst (as1.map (fun p => V.ref p.1) ++ [V.ref p.1])) l = some (.lst ls) := by rw [upd_ne (Ne.symm hlf)]; exact hll
  generalize upd H lf (.lst (as1.map (fun p => V.ref p.1) ++ [V.ref p.1])) = H1 at *
  unfold onePS at hr
  obtain ⟨term, q1, hr⟩ := R.b0_ok hr
  obtain ⟨nn, q2, hr⟩ := R.b0_ok hr
  cases nn with
  | int n =>
    dsimp only at hr
    obtain ⟨b, q3, hr⟩ := R.b0_ok hr
    refine ⟨G, _, p, wd, term, n, W1.fr.i, denv_ok t hσ h1 rd, h2, W1.mid hl, q1, q2, fun H2 s2 => ?_⟩
    have W2 := W1.ext (Ext.heap W1.fr.i s2)
    have g1 : (σ.set 5 (some (V.int n)))[1]? = some (some vd) := by rw [List.getElem?_set_ne (by decide)]; exact h1
    have g2 : (σ.set 5 (some (V.int n)))[2]? = some (some (.ref p.1)) := by rw [List.getElem?_set_ne (by decide)]; exact h2
    have g5 : (σ.set 5 (some (V.int n)))[5]? = some (some (V.int n)) := by rw [List.getElem?_set_self (by omega)]
    have gl : (σ.set 5 (some (V.int n))).length = 6 := by simp [hσ]
    have ge : ∀ i, i ≠ 5 → (σ.set 5 (some (V.int n)))[i]? = σ[i]? := fun i hi => by rw [List.getElem?_set_ne (Ne.symm hi)]
    refine ⟨G, _, W2.fr.i, denv_ok t gl g1 rd, ?_⟩
    rw [q3]
    intro H3 s3
    have W3 := W2.ext (Ext.heap W2.fr.i s3)
    have f3 := s3.lst (s2.lst f1)
    have l3 := s3.lst (s2.lst l1)
    obtain ⟨C', dx, vt, vs, kvs, hC, a1, a2, a3, nd, rk, rt, rs, z1, z2⟩ := id (W3.mid hl)
    rw [Wc.at'] at hC
    cases hC
    cases b with
    | true =>
      rw [if_pos rfl] at hr
      obtain ⟨kd, q4, hr⟩ := R.b0_ok hr
      refine iteT ⟨.int n, g5, .ref p.1, g2, p.1, C, dx, _, .ref p.2, rfl, a1, Wc.c, Wc.n1, lk_names _ _ _ _, G, _, W3.fr.i, denv_ok t gl g1 rd, ?_⟩
      rw [q4]
      intro kv G4 H4 e4 r4
      cases hkk : keyOf kd with
      | none => rw [hkk] at hr; cases hr
      | some kk =>
        rw [hkk] at hr
        dsimp only at hr
        split at hr
        · rename_i hz2
          cases hr
          have ev := kd_kv r4 hkk
          subst ev
          have a4 : H4 p.2 = some (.dK kvs) := e4.h.dK a3
          have W4 := W3.ext e4
          refine ⟨p.2, _, rfl, DPut.k (k := kk) a4 (Nat.lt_of_lt_of_le (by rw [rk.len]; exact hz2) (szl_line (Nat.le_refl _))), ?_⟩
          have np : p.2 ≠ lf ∧ p.2 ≠ l := by
            have := Wg.nd
            simp at this
            constructor
            · rintro rfl; exact this.1.2.2.2.1 rfl
            · rintro rfl; exact this.2.1.2.2.1 rfl
          refine hD _ G4 _ e4.g (W4.name hl a4 (.int n)) ?_ ?_ gl ge
          · rw [upd_ne (Ne.symm np.1)]; exact e4.h.lst f3
          · rw [upd_ne (Ne.symm np.2)]; exact e4.h.lst l3
        · cases hr
    | false =>
      rw [if_neg (by simp)] at hr
      split at hr
      · rename_i hz2
        cases hr
        refine iteF ⟨.ref p.1, g2, p.1, C, dx, _, vt, rfl, a1, Wc.c, Wc.n2, lk_trail _ _ _ _, .int n, g5, by simp [sizeLine_eq], fun q nq => ?_⟩
        have e4 : Ext G H3 (upd G q (.tup [.int n])) (upd H3 q (.tup [.int n])) := Ext.new W3.fr.i nq
        have W4 := W3.ext e4
        have q4 : upd H3 q (.tup [.int n]) q = some (.tup [.int n]) := upd_same
        have gq4 : upd G q (.tup [.int n]) q = some (.tup [.int n]) := upd_same
        have a14 : upd H3 q (.tup [.int n]) p.1 = some (.ins C dx (fdW p.2 vt wd.steps vs)) := e4.h.ap _ _ a1 fun _ z => by cases z
        have f4 := e4.h.lst f3
        have l4 := e4.h.lst l3
        have rt4 := rt.mono e4.g
        generalize upd H3 q (.tup [.int n]) = H4 at *
        generalize upd G q (.tup [.int n]) = G4 at *
        have np : p.1 ≠ lf ∧ p.1 ≠ l := by
          have := Wg.nd
          simp at this
          constructor
          · rintro rfl; exact this.1.2.2.1 rfl
          · rintro rfl; exact this.2.1.2.1 rfl
        have fin : ∀ (G5 H5 : Hp) (vt' : V), Ext G4 H4 G5 H5 → Rep K G5 vt' (.tuple (wd.trail ++ [.int n])) → ∃ v, (σ.set 5 (some (V.int n)))[2]? = some (some v) ∧ ∃ a C' dx' fs, v = .ref a ∧ H5 a = some (.ins C' dx' fs) ∧ Cls K C' ∧ NoAttr K C' (Str.ofString "trail") ∧ fs.length < 1000 ∧ D.nx (σ.set 5 (some (V.int n))) (upd H5 a (.ins C' dx' (putF (Str.ofString "trail") vt' fs))) := fun G5 H5 vt' e5 r5 => by
          have a15 : H5 p.1 = some (.ins C dx (fdW p.2 vt wd.steps vs)) := e5.h.ap _ _ a14 fun _ z => by cases z
          refine ⟨.ref p.1, g2, p.1, C, dx, _, rfl, a15, Wc.c, Wc.n2, by simp, ?_⟩
          refine hD _ G5 _ (e4.g.trans e5.g) ((W4.ext e5).trail hl a15 r5) ?_ ?_ gl ge
          · rw [upd_ne (Ne.symm np.1)]; exact e5.h.lst f4
          · rw [upd_ne (Ne.symm np.2)]; exact e5.h.lst l4
        cases rt4 with
        | @tup a xs _ ha rx =>
          have hlen := rx.length
          refine ⟨a, q, xs, [.int n], rfl, rfl, sqT_same e4.i ha, .inl (.inl q4), szl_line (by rw [hlen]; simpa using hz2), fun ex => ?_, fun _ z => (by cases z), fun _ _ pp npp => ?_⟩
          · subst ex
            have et : wd.trail = [] := List.eq_nil_of_length_eq_zero hlen.symm
            refine fin G4 H4 _ (Ext.refl e4.i) ?_
            rw [et, List.nil_append]
            exact .tup (.inl (.inl gq4)) (.cons (.int n) .nil)
          · have e5 : Ext G4 H4 (upd G4 pp (.tup (xs ++ [.int n]))) (upd H4 pp (.tup (xs ++ [.int n]))) := Ext.new e4.i npp
            exact fin _ _ _ e5 (.tup (.inl (.inl upd_same)) ((rx.mono e5.g).append (.cons (.int n) .nil)))
      · cases hr
  | _ => cases hr
end
end PL
/-! PL, part af: ways behind an if. -/
namespace PL
open PySem PySem.Spec PyProof.Rows L2
/-- the block that an if goes to -/
noncomputable def pickB (g : List PyData → R PyData) (d : PyData) (wd : WayD) : R PyData := (eD 1 (denv d)).b0 fun term => (g [term, .dict wd.names]).b0 fun n => match n with
  | .int n => dIx d (.int (if n = 0 then 3 else 2))
  | _ => .no
def tBlk (K : PySem.W.Frag) (g : List PyData → R PyData) : TE := fun σ H Q => ∃ (G : Hp) (p : Addr × Addr) (wd : WayD) (d blk : PyData) (vd : V), Same G H ∧ Tbs G ∧ σ.length = 6 ∧ σ[1]? = some (some vd) ∧ Rep K G vd d ∧ σ[2]? = some (some (.ref p.1)) ∧ WayA K G H p wd ∧ pickB g d wd = .ok blk ∧ ∀ vb G' H', Ext G H G' H' → Rep K G' vb blk → Q vb H'
section
variable {X : Cx} {ec : Nat → Addr} {W : WX} {pos p0 p1 p2 p3 p4 p5 p6 p7 p8 p9 q1 q2 : Pos} {j0 j1 j2 j3 : Nat} {x y wn : Str} {k : Nat} {g : List PyData → R PyData} {C : Addr} {cnd : Expr}
theorem pe_blk (hy : PE X (.Name y p0) (tVar 1)) (hc : PE X cnd (tWo X.K g 2 (eD 1))) (hpi : PlainIx (.IfExp (.Compare cnd [.NotEq] [.Constant (.int 0) j0 p3] p4) (.Constant (.int 2) j1 p5) (.Constant (.int 3) j2 p6) p7) := by exact fun _ _ => rfl) :
    PE X (.Subscript (.Name y p0) (.IfExp (.Compare cnd [.NotEq] [.Constant (.int 0) j0 p3] p4) (.Constant (.int 2) j1 p5) (.Constant (.int 3) j2 p6) p7) pos) (tBlk X.K g) := by
  refine PE_imp (pe_ix ix_seq hy (pe_ifExp (pt_cmpR op_ne hc pe_int (nomark _)) pe_int pe_int) hpi) fun σ H Q h => ?_
  obtain ⟨G, p, wd, d, blk, vd, s, t, hl, h1, rd, h2, wa, hb, q⟩ := h
  unfold pickB at hb
  obtain ⟨term, b1, hb⟩ := R.b0_ok hb
  obtain ⟨nn, b2, hb⟩ := R.b0_ok hb
  cases nn with
  | int n =>
    dsimp only at hb
    refine ⟨vd, h1, G, _, p, wd, term, n, s, denv_ok t hl h1 rd, h2, wa, b1, b2, fun H1 s1 => ⟨rfl, _, rfl, ?_⟩⟩
    by_cases z : n = 0
    · subst z
      rw [if_pos rfl] at hb
      have e : (!decide (V.int 0 = V.int 0)) = false := by simp
      rw [e]
      refine iteF (od_ix vd (.int 3) d (.int 3) blk G H1 Q (s.trans s1) rd (.int 3) hb fun v G' H' e r => q v G' H' ((Ext.heap s s1).trans e) r)
    · rw [if_neg z] at hb
      have e : (!decide (V.int n = V.int 0)) = true := by simp [z]
      rw [e]
      exact iteT (od_ix vd (.int 2) d (.int 2) blk G H1 Q (s.trans s1) rd (.int 2) hb fun v G' H' e r => q v G' H' ((Ext.heap s s1).trans e) r)
  | _ => cases hb
end
noncomputable def oneIf (ga : List WayD → PyData → R (List WayD)) (g : List PyData → R PyData) (d : PyData) (wd : WayD) : R (List WayD) := (pickB g d wd).b0 fun blk => ga [wd] blk
/-- found.extend(after([way], deed[..])) -/
def rdIf (K : PySem.W.Frag) (ec : Nat → Addr) (W : WX) (ga : List WayD → PyData → R (List WayD)) (g : List PyData → R PyData) : TS := tDrop (tBM K "list" (rExtendR K) (tVar 3) (tCons (tCallS (spW K ec ga) (WE W) (tCons (tLst (tCons (tVar 2) tNil)) (tCons (tBlk K g) tNil))) tNil))
section
variable {K : PySem.W.Frag} {ec : Nat → Addr} {W : WX} {G0 H0 G H : Hp} {fp0 : List Addr} {as1 as2 : List (Addr × Addr)} {p : Addr × Addr} {ws1 ws2 : List WayD} {wd : WayD} {lf l : Addr} {ls : List V} {σ : L2.St} {vd : V} {d : PyData} {D : Ends} {ga : List WayD → PyData → R (List WayD)} {g : List PyData → R PyData}
/-- the list l' at found's end: found grows -/
theorem WG.grow {as' : List (Addr × Addr)} {ws' : List WayD} {l' : Addr} {G' H' : Hp} (Wc : WG K G0 H0 fp0 G' H' (l' :: [lf, l]) (as1 ++ (as' ++ as2)) (ws1 ++ (ws' ++ ws2))) (hlf : H' lf = some (.lst (as1.map fun p => V.ref p.1))) (hll : H' l = some (.lst ls)) :
    WG K G0 H0 fp0 G' (upd H' lf (.lst (as1.map (fun p => V.ref p.1) ++ as'.map (fun p => V.ref p.1)))) [lf, l] (as1 ++ (as' ++ as2)) (ws1 ++ (ws' ++ ws2)) ∧ upd H' lf (.lst (as1.map (fun p => V.ref p.1) ++ as'.map (fun p => V.ref p.1))) lf = some (.lst ((as1 ++ as').map fun p => V.ref p.1)) ∧ upd H' lf (.lst (as1.map (fun p => V.ref p.1) ++ as'.map (fun p => V.ref p.1))) l = some (.lst ls) := by
  have nd := Wc.nd
  have nd' := nd
  simp only [List.cons_append, List.nil_append, List.nodup_cons, List.mem_cons] at nd'
  have W1 := Wc.put (a := lf) (o := .lst (as1.map (fun p => V.ref p.1) ++ as'.map (fun p => V.ref p.1))) (by simp) (raw_lst _) (Wc.wa.keep (Same.refl _) (fun b o e1 e2 => by
    rw [upd_ne]
    · exact e1
    · rintro rfl
      rcases e2 with e2 | ⟨x, rfl⟩
      · exact nd'.2.1 (.inr e2)
      · rw [hlf] at e1; cases e1) fun a ha => (Wc.wa.tame a ha).1)
  refine ⟨W1.sub W1.wa (fun a ha => List.mem_cons_of_mem _ ha) ?_ (fun a ha => List.mem_append_right _ ha), by rw [upd_same]; simp, ?_⟩
  · have := nd
    rw [List.cons_append, List.nodup_cons] at this
    exact this.2
  · rw [upd_ne]
    · exact hll
    · rintro rfl; exact nd'.2.1 (.inl rfl)
theorem if_way (Wg : WG K G0 H0 fp0 G H [lf, l] (as1 ++ (p :: as2)) (ws1 ++ (wd :: ws2))) (hl : as1.length = ws1.length) (hf : H lf = some (.lst (as1.map fun p => V.ref p.1))) (hll : H l = some (.lst ls)) (t : Tbs G) (hσ : σ.length = 6) (h1 : σ[1]? = some (some vd)) (h2 : σ[2]? = some (some (.ref p.1))) (h3 : σ[3]? = some (some (.ref lf))) (rd : Rep K G vd d) {r : R (List WayD)} (hr : oneIf ga g d wd = r)
    (hD : ∀ ws', r = .ok ws' → as1.length + ws'.length ≤ szl ∧ ∀ G' H' as', Same G G' → WG K G0 H0 fp0 G' H' [lf, l] (as1 ++ (as' ++ as2)) (ws1 ++ (ws' ++ ws2)) → as'.length = ws'.length → H' lf = some (.lst ((as1 ++ as').map fun p => V.ref p.1)) → H' l = some (.lst ls) → D.nx σ H')
    (hE : ∀ c, r = .ex c → ∀ H', Same (delF H0 fp0) H' → W (.ref (ec c)) none σ H') (hN : r ≠ .no) : rdIf K ec W ga g D σ H := by
  unfold rdIf
  refine ⟨.ref lf, h3, .inl ⟨rfl, _, SqL.of hf⟩, .ref p.1, h2, by simp [sizeLine_eq], fun ll nll => ?_⟩
  have W1 := Wg.new nll (raw_lst [V.ref p.1])
  have hs1 : Same H (upd H ll (.lst [V.ref p.1])) := same_new nll
  have hll1 : upd H ll (.lst [V.ref p.1]) ll = some (.lst [V.ref p.1]) := upd_same
  generalize upd H ll (.lst [V.ref p.1]) = H1 at *
  unfold oneIf at hr
  cases qb : pickB g d wd with
  | no => rw [qb] at hr; exact absurd hr.symm hN
  | ex c => rw [qb] at hr; exact absurd hr.symm hN
  | ok blk =>
    rw [qb] at hr
    have hr : ga [wd] blk = r := hr
    refine ⟨G, p, wd, d, blk, vd, W1.fr.i, t, hσ, h1, rd, h2, W1.mid hl, qb, fun vb G2 H2 e2 rb => ?_⟩
    have W2 := W1.ext e2
    have l2 := e2.h.lst hll1
    have mid := W2.mid hl
    refine ⟨rfl, ll, vb, G2, [p], [wd], blk, rfl, t.mono e2.g, W2.fr.i, (W2.gx ll (by simp)).1, ?_, .cons mid .nil, l2, rb, ?_⟩
    · have nd := W2.nd
      simp only [List.cons_append, List.nil_append, List.nodup_cons, List.mem_cons, fpW_app, fpW_cons, List.mem_append, not_or] at nd
      have n4 := List.nodup_append.mp nd.2.2.2
      have n5 := List.nodup_cons.mp n4.2.1
      simp only [fpW_cons, fpW_nil, List.nodup_cons, List.mem_cons, List.not_mem_nil, or_false, not_or]
      exact ⟨⟨nd.1.2.2.2.1, nd.1.2.2.2.2.1⟩, fun z => n5.1 (by rw [z]; simp), by simp, List.nodup_nil⟩
    · rw [hr]
      cases r with
      | no => exact absurd rfl hN
      | ex c =>
        intro H' s
        refine hE c rfl H' ((W2.outer (fp := ll :: fpW [p]) fun a ha => ?_).trans s)
        simp only [fpW_cons, fpW_nil, List.mem_cons, List.not_mem_nil, or_false] at ha
        rcases ha with rfl | rfl | rfl <;> simp
      | ok ws' =>
        obtain ⟨hz, hD⟩ := hD ws' rfl
        intro G3 H3 l' as' C hl3
        have W2' : WG K G0 H0 fp0 G2 H2 (ll :: [lf, l]) (as1 ++ ([p] ++ as2)) (ws1 ++ ([wd] ++ ws2)) := W2
        obtain ⟨W3, old⟩ := W2'.call hl rfl C
        have f3 : H3 lf = some (.lst (as1.map fun p => V.ref p.1)) := by rw [old lf (by simp)]; exact e2.h.lst (hs1.lst hf)
        have ll3 : H3 l = some (.lst ls) := by rw [old l (by simp)]; exact e2.h.lst (hs1.lst hll)
        have al := C.wa.len
        refine ⟨lf, l', _, as'.map fun p => V.ref p.1, rfl, rfl, f3, .inl (.inl hl3), szl_line (by rw [List.length_map, List.length_map, al]; exact hz), ?_⟩
        obtain ⟨W4, f4, l4⟩ := W3.grow f3 ll3
        exact hD G3 _ as' (e2.g.trans C.fr.g) W4 al f4 l4
end
end PL
/-! PL, part ag: ways behind a draw. -/
namespace PL
open PySem PySem.Spec PyProof.Rows L2
section
variable {K : PySem.W.Frag} {G0 H0 G H G' H' : Hp} {fp0 xs : List Addr} {bs cs : List (Addr × Addr)} {p : Addr × Addr} {vs us : List WayD} {wd : WayD}
/-- a new way among the others -/
theorem WG.ins (W : WG K G0 H0 fp0 G H xs (bs ++ cs) (vs ++ us)) (hl : bs.length = vs.length) (e : Ext G H G' H') (wa : WayA K G' H' p wd) (n1 : H p.1 = none) (n2 : H p.2 = none) (n3 : p.1 ≠ p.2) : WG K G0 H0 fp0 G' H' xs (bs ++ (p :: cs)) (vs ++ (wd :: us)) := by
  have W2 := W.ext e
  obtain ⟨w1, w2⟩ := W2.wa.split hl
  have new : ∀ a, H a = none → a ∉ xs ++ fpW (bs ++ cs) := fun a ha z => by
    obtain ⟨_, u, hu, _⟩ := W.tame a z
    rw [ha] at hu
    cases hu
  have m1 := new _ n1
  have m2 := new _ n2
  have nd := W.nd
  rw [fpW_app] at nd m1 m2
  simp only [List.mem_append, not_or] at m1 m2
  obtain ⟨a1, a2, a3⟩ := List.nodup_append.mp nd
  obtain ⟨b1, b2, b3⟩ := List.nodup_append.mp a2
  refine ⟨W2.fr, w1.app (.cons wa w2), ?_, fun a ha => ?_, W2.gx⟩
  · rw [fpW_app, fpW_cons]
    refine List.nodup_append.mpr ⟨a1, List.nodup_append.mpr ⟨b1, List.nodup_cons.mpr ⟨fun z => ?_, List.nodup_cons.mpr ⟨m2.2.2, b2⟩⟩, fun a ha b hb z => ?_⟩, fun a ha b hb z => ?_⟩
    · rcases List.mem_cons.mp z with z | z
      · exact n3 z
      · exact m1.2.2 z
    · subst z
      rcases List.mem_cons.mp hb with rfl | hb
      · exact m1.2.1 ha
      · rcases List.mem_cons.mp hb with rfl | hb
        · exact m2.2.1 ha
        · exact b3 a ha a hb rfl
    · subst z
      rcases List.mem_append.mp hb with hb | hb
      · exact a3 a ha a (List.mem_append_left _ hb) rfl
      · rcases List.mem_cons.mp hb with rfl | hb
        · exact m1.1 ha
        · rcases List.mem_cons.mp hb with rfl | hb
          · exact m2.1 ha
          · exact a3 a ha a (List.mem_append_right _ hb) rfl
  · rw [fpW_app, fpW_cons] at ha
    simp only [List.mem_append, List.mem_cons] at ha
    rcases ha with h | h | h | h | h
    · exact W.ow a (by simp [h])
    · exact W.ow a (by simp [h])
    · subst h; exact .inr (W.fr.k _ n1)
    · subst h; exact .inr (W.fr.k _ n2)
    · exact W.ow a (by simp [h])
end
noncomputable def drawAll (g : List PyData → R PyData) (wd : WayD) (nm : Str) (m : Int) : List Nat → R (List WayD)
  | [] => .ok []
  | n :: ns => (drw1 g wd nm (0 + (n : Int)) m).b0 fun w => (drawAll g wd nm m ns).b0 fun ws => .ok (w :: ws)
noncomputable def oneDr (g : List PyData → R PyData) (d : PyData) (wd : WayD) : R (List WayD) := (eD 2 (denv d)).b0 fun md => (eD 1 (denv d)).b0 fun nd => match md, nd with
  | .int m, .str nm => if -lim < m ∧ m < lim then drawAll g wd nm m (List.range m.toNat) else .no
  | _, _ => .no
theorem drawAll_len {g : List PyData → R PyData} {wd : WayD} {nm : Str} {m : Int} : ∀ {ns : List Nat} {ws : List WayD}, drawAll g wd nm m ns = .ok ws → ws.length = ns.length
  | [], ws, h => by cases h; rfl
  | n :: ns, ws, h => by
    unfold drawAll at h
    obtain ⟨w, _, h⟩ := R.b0_ok h
    obtain ⟨ws', h', h⟩ := R.b0_ok h
    cases h
    rw [List.length_cons, List.length_cons, drawAll_len h']
/-- found.extend([way.drawn(deed[1], number, deed[2]) for number in range(deed[2])]) -/
def rdDr (K : PySem.W.Frag) (ec : Nat → Addr) (W : WX) (C : Addr) (g : List PyData → R PyData) : TS := tDrop (tBM K "list" (rExtendR K) (tVar 3) (tCons (tLc (tDI K ec W (iCall rng1 [eD 2])) (gName 5) tYes
  (tMethW C (Str.ofString "drawn") (spDr K g) (WE WNo) (tVar 2) (tCons (tD K ec WNo (eD 1)) (tCons (tVar 5) (tCons (tD K ec WNo (eD 2)) tNil)))) [5]) tNil))
section
variable {K : PySem.W.Frag} {ec : Nat → Addr} {W : WX} {G0 H0 G H : Hp} {fp0 : List Addr} {as1 as2 : List (Addr × Addr)} {p : Addr × Addr} {ws1 ws2 : List WayD} {wd : WayD} {lf l C : Addr} {ls : List V} {σ : L2.St} {vd : V} {d : PyData} {D : Ends} {g : List PyData → R PyData}
theorem dr_way (Wc : WayC K C) (Wg : WG K G0 H0 fp0 G H [lf, l] (as1 ++ (p :: as2)) (ws1 ++ (wd :: ws2))) (hl : as1.length = ws1.length) (hf : H lf = some (.lst (as1.map fun p => V.ref p.1))) (hll : H l = some (.lst ls)) (t : Tbs G) (hσ : σ.length = 6) (h1 : σ[1]? = some (some vd)) (h2 : σ[2]? = some (some (.ref p.1))) (h3 : σ[3]? = some (some (.ref lf))) (rd : Rep K G vd d) {ws' : List WayD} (hr : oneDr g d wd = .ok ws')
    (hz : as1.length + ws'.length ≤ szl) (hD : ∀ G' H' as', Same G G' → WG K G0 H0 fp0 G' H' [lf, l] (as1 ++ (as' ++ as2)) (ws1 ++ (ws' ++ ws2)) → as'.length = ws'.length → H' lf = some (.lst ((as1 ++ as').map fun p => V.ref p.1)) → H' l = some (.lst ls) → D.nx σ H') :
    rdDr K ec W C g D σ H := by
  unfold rdDr
  unfold oneDr at hr
  obtain ⟨md, q2, hr⟩ := R.b0_ok hr
  obtain ⟨nd, q1, hr⟩ := R.b0_ok hr
  split at hr
  · rename_i m nm hx0
    clear hx0
    split at hr
    · rename_i hm
      refine ⟨.ref lf, h3, .inl ⟨rfl, _, SqL.of hf⟩, G, _, Wg.fr.i, denv_ok t hσ h1 rd, ?_⟩
      have ei : iCall rng1 [eD 2] (denv d) = .ok (rngF 0 m.toNat) := by
        have : aAll [eD 2] (denv d) = .ok [.int m] := by
          unfold aAll
          rw [q2]
          rfl
        unfold iCall
        rw [this, R.bind_ok]
        unfold rng1
        dsimp only
        rw [if_pos hm]
      rw [ei]
      intro J G1 H1 e1 wk D0 nD
      have W1 := (Wg.ext e1).new nD (raw_lst [])
      have f1 : upd H1 D0 (.lst []) lf = some (.lst (as1.map fun p => V.ref p.1)) := (same_new nD).lst (e1.h.lst hf)
      have l1 : upd H1 D0 (.lst []) l = some (.lst ls) := (same_new nD).lst (e1.h.lst hll)
      have rl : (rngF 0 m.toNat).length = m.toNat := by unfold rngF; simp
      have wk' : Walk J (rngF 0 m.toNat).length (fun H => Same G1 H) (fun i H x H' => ∀ Gc d, (rngF 0 m.toNat)[i]? = some d → Same G1 Gc → Same Gc H → ∃ Gc', Ext Gc H Gc' H' ∧ Rep K Gc' x d) :=
        ⟨fun i H hi s => wk.go i H hi s, fun H s => wk.stop H s, fun i H x H' hi s y Gc d hd s1 s2 => wk.yld i Gc H x H' d hd s1 s2 y⟩
      refine lc_it wk' (fun i H2 => ∃ G2 as' vs' us', Same G1 G2 ∧ WG K G0 H0 fp0 G2 H2 (D0 :: [lf, l]) (as1 ++ (p :: (as' ++ as2))) (ws1 ++ (wd :: (vs' ++ ws2))) ∧ as'.length = vs'.length ∧ H2 D0 = some (.lst (as'.map fun p => V.ref p.1)) ∧ H2 lf = some (.lst (as1.map fun p => V.ref p.1)) ∧ H2 l = some (.lst ls) ∧ drawAll g wd nm m ((List.range m.toNat).drop i) = .ok us' ∧ ws' = vs' ++ us')
        ⟨G1, [], [], ws', Same.refl _, W1, rfl, upd_same, f1, l1, hr, rfl⟩ ?_ ?_ ?_
      · rintro i H2 _ ⟨G2, as', vs', us', g2, W2, _⟩
        exact g2.trans W2.fr.i
      · rintro i x H2 H3 hi ⟨G2, as', vs', us', g2, W2, al, hD2, hf2, hl2, hu, hw⟩ y
        have hi' : i < m.toNat := by rw [rl] at hi; exact hi
        have hd : (rngF 0 m.toNat)[i]? = some (.int (0 + (i : Int))) := by unfold rngF; simp [hi']
        obtain ⟨G3, e3, r3⟩ := y G2 _ hd g2 W2.fr.i
        cases r3
        have W3 := W2.ext e3
        have ex : (List.range m.toNat).drop i = i :: (List.range m.toNat).drop (i + 1) := by
          rw [List.drop_eq_getElem_cons (by simpa using hi')]
          simp
        rw [ex, drawAll] at hu
        obtain ⟨w0, hw0, hu⟩ := R.b0_ok hu
        obtain ⟨us0, hus, hu⟩ := R.b0_ok hu
        cases hu
        have g1 : ((wipe σ [5]).set 5 (some (V.int (0 + (i : Int)))))[1]? = some (some vd) := by rw [List.getElem?_set_ne (by decide), wipe_get]; simpa using h1
        have g2' : ((wipe σ [5]).set 5 (some (V.int (0 + (i : Int)))))[2]? = some (some (.ref p.1)) := by rw [List.getElem?_set_ne (by decide), wipe_get]; simpa using h2
        have gl : ((wipe σ [5]).set 5 (some (V.int (0 + (i : Int))))).length = 6 := by rw [List.length_set, wipe_length]; exact hσ
        have g5 : ((wipe σ [5]).set 5 (some (V.int (0 + (i : Int)))))[5]? = some (some (V.int (0 + (i : Int)))) := by rw [List.getElem?_set_self (by rw [wipe_length]; omega)]
        have ts : Same G G3 := (e1.g.trans g2).trans e3.g
        refine ⟨by rw [wipe_set _ _ _ _ (by simp), wipe_wipe], ?_⟩
        unfold tYes
        dsimp only
        rw [if_pos rfl]
        have mid := W3.mid hl
        obtain ⟨C', dx, vt, vs, kvs, hC, a1, _⟩ := id mid
        rw [Wc.at'] at hC
        cases hC
        refine ⟨.ref p.1, g2', p.1, dx, _, rfl, a1, by simp [List.lookup, show (Str.ofString "drawn" == Str.ofString "names") = false by decide, show (Str.ofString "drawn" == Str.ofString "trail") = false by decide, show (Str.ofString "drawn" == Str.ofString "steps") = false by decide, show (Str.ofString "drawn" == Str.ofString "share") = false by decide], G3, _, W3.fr.i, denv_ok (t.mono ts) gl g1 (rd.mono ts), ?_⟩
        rw [q1]
        intro v4 G4 H4 e4 r4
        cases r4
        refine ⟨_, g5, G4, _, e4.i, denv_ok ((t.mono ts).mono e4.g) gl g1 ((rd.mono ts).mono e4.g), ?_⟩
        rw [q2]
        intro v5 G5 H5 e5 r5
        cases r5
        have W5 := (W3.ext e4).ext e5
        refine ⟨p, nm, _, m, G5, wd, rfl, ((t.mono ts).mono e4.g).mono e5.g, W5.fr.i, W5.mid hl, ?_⟩
        rw [hw0]
        intro G6 H6 p' e6 wa' n1 n2 n3
        have D6 : H6 D0 = some (.lst (as'.map fun p => V.ref p.1)) := e6.h.lst (e5.h.lst (e4.h.lst (e3.h.lst hD2)))
        have f6 : H6 lf = some (.lst (as1.map fun p => V.ref p.1)) := e6.h.lst (e5.h.lst (e4.h.lst (e3.h.lst hf2)))
        have l6 : H6 l = some (.lst ls) := e6.h.lst (e5.h.lst (e4.h.lst (e3.h.lst hl2)))
        have W5' : WG K G0 H0 fp0 G5 H5 (D0 :: [lf, l]) ((as1 ++ (p :: as')) ++ as2) ((ws1 ++ (wd :: vs')) ++ ws2) := by simpa using W5
        have W6 := W5'.ins (by simp [hl, al]) e6 wa' n1 n2 n3
        have lu := drawAll_len hus
        have hlen : as'.length < szl := by
          have : ws'.length = vs'.length + (us0.length + 1) := by rw [hw, List.length_append, List.length_cons]
          omega
        refine ⟨_, D6, Nat.lt_of_lt_of_le (by rw [List.length_map]; exact hlen) (szl_line (Nat.le_refl _)), G6, as' ++ [p'], vs' ++ [w0], us0, (((g2.trans e3.g).trans e4.g).trans e5.g).trans e6.g, ?_, by simp [al], by rw [upd_same]; simp, ?_, ?_, hus, by rw [hw]; simp⟩
        · have W6' : WG K G0 H0 fp0 G6 H6 (D0 :: [lf, l]) (as1 ++ (p :: ((as' ++ [p']) ++ as2))) (ws1 ++ (wd :: ((vs' ++ [w0]) ++ ws2))) := by simpa using W6
          refine W6'.put (by simp) (raw_lst _) (W6'.wa.keep (Same.refl _) (fun b o z1 z2 => ?_) fun a ha => (W6'.wa.tame a ha).1)
          rw [upd_ne]
          · exact z1
          · rintro rfl
            rcases z2 with z2 | ⟨x, rfl⟩
            · have := W6'.nd
              rw [List.cons_append, List.nodup_cons] at this
              exact this.1 (List.mem_append_right _ z2)
            · rw [D6] at z1; cases z1
        · have : lf ≠ D0 := by
            have := W6.nd
            rw [List.cons_append, List.nodup_cons] at this
            rintro rfl
            exact this.1 (by simp)
          rw [upd_ne this]; exact f6
        · have : l ≠ D0 := by
            have := W6.nd
            rw [List.cons_append, List.nodup_cons] at this
            rintro rfl
            exact this.1 (by simp)
          rw [upd_ne this]; exact l6
      · rintro H2 ⟨G2, as', vs', us', g2, W2, al, hD2, hf2, hl2, hu, hw⟩
        rw [rl, List.drop_eq_nil_of_le (by simp), drawAll] at hu
        cases hu
        rw [List.append_nil] at hw
        subst hw
        refine ⟨lf, D0, _, as'.map fun p => V.ref p.1, rfl, rfl, hf2, .inl (.inl hD2), szl_line (by rw [List.length_map, List.length_map, al]; exact hz), ?_⟩
        -- the old way is given up
        have W3 : WG K G0 H0 fp0 G2 H2 (D0 :: [lf, l]) (as1 ++ (as' ++ as2)) (ws1 ++ (ws' ++ ws2)) := by
          obtain ⟨w1, w2⟩ := W2.wa.split hl
          cases w2 with
          | cons _ w2 =>
            refine W2.sub (w1.app w2) (fun a ha => ha) ?_ (fun a ha => ?_)
            · have := W2.nd
              rw [fpW_app, fpW_cons, fpW_app] at this
              rw [fpW_app, fpW_app]
              exact this.sublist (List.Sublist.append (List.Sublist.refl _) (List.Sublist.append (List.Sublist.refl _) ((List.Sublist.refl _).cons _ |>.cons _)))
            · simp only [fpW_app, fpW_cons, List.mem_append, List.mem_cons] at ha ⊢
              rcases ha with h | h | h <;> simp [h]
        obtain ⟨W4, f4, l4⟩ := W3.grow hf2 hl2
        exact hD G2 _ as' (e1.g.trans g2) W4 al f4 l4
    · cases hr
  · cases hr
end
end PL
/-! PL, part ah: all ways behind a deed. -/
namespace PL
open PySem PySem.Spec PyProof.Rows L2
noncomputable def oneW (ga : List WayD → PyData → R (List WayD)) (gw gt : List PyData → R PyData) (d : PyData) (wd : WayD) : R (List WayD) := (bD "draw" (denv d)).b0 fun b1 => if b1 = true then oneDr gt d wd else (bD "if" (denv d)).b0 fun b2 => if b2 = true then oneIf ga gw d wd else (onePS gw d wd).b0 fun w => .ok [w]
noncomputable def goW (ga : List WayD → PyData → R (List WayD)) (gw gt : List PyData → R PyData) (d : PyData) : List WayD → List WayD → R (List WayD)
  | [], acc => .ok acc
  | w :: ws, acc => (oneW ga gw gt d w).bind fun new => if acc.length + new.length < szl then goW ga gw gt d ws (acc ++ new) else .no
def iterA (ga : List WayD → PyData → R (List WayD)) (blk : R PyData) : Nat → List WayD → R (List WayD)
  | 0, ws => .ok ws
  | n + 1, ws => blk.b0 fun b => (ga ws b).bind (iterA ga blk n)
def incW (w : WayD) : WayD := { w with steps := w.steps + 1 }
def finW (many c : Nat) (ws : List WayD) : R (List WayD) := if many < ws.length then .ex c else .ok ws
noncomputable def gDeed (many c : Nat) (ga : List WayD → PyData → R (List WayD)) (gw gt : List PyData → R PyData) (ws : List WayD) (d : PyData) : R (List WayD) := (bD "again" (denv d)).b0 fun b => if b = true then (eD 1 (denv d)).b0 fun kd => match kd with
    | .int k => if -lim < k ∧ k < lim then iterA ga (eD 2 (denv d)) k.toNat (ws.map incW) else .no
    | _ => .no
  else (goW ga gw gt d (ws.map incW) []).bind (finW many c)
/-! ### the readings -/
def rdSteps (K : PySem.W.Frag) : TS := tFor (iList K (tVar 0)) (gName 2) (sFld K (tVar 2) (tAdd (tFld K (tVar 2) (Str.ofString "steps")) (tC (.int 1))) (Str.ofString "steps"))
def rdAgain (K : PySem.W.Frag) (ec : Nat → Addr) (W : WX) (ga : List WayD → PyData → R (List WayD)) : TS := tSeq (tFor (tDI K ec W (iCall rng1 [eD 1])) (gName 4) (tAsg (tCallS (spW K ec ga) (WE W) (tCons (tVar 0) (tCons (tD K ec W (eD 2)) tNil))) (gName 0))) (tRet (tVar 0))
def rdWays (K : PySem.W.Frag) (ec : Nat → Addr) (W : WX) (C : Addr) (ga : List WayD → PyData → R (List WayD)) (gw gt : List PyData → R PyData) : TS := tFor (iList K (tVar 0)) (gName 2) (tIfS (tDT K ec W (bD "draw")) (rdDr K ec W C gt) (tIfS (tDT K ec W (bD "if")) (rdIf K ec W ga gw) (rdPS K ec W gw (rCatA K))))
def rdMany (K : PySem.W.Frag) (ec : Nat → Addr) (W : WX) (Ga Ha : Hp) (many : Int) (c : Nat) : TS := tIfS (tTest (tOp (rI0 fun i j => .bl (decide (j < i))) (tCB (fun xs H Q => ∃ p ys, xs = [V.ref p] ∧ (SqL K H p ys ∨ SqT K H p ys) ∧ Q (.int ys.length) H) (tCons (tVar 3) tNil)) (tC (.int many)))) (tDS K ec W Ga Ha (sRaise c)) tNext
section
variable {K : PySem.W.Frag} {ec : Nat → Addr} {E : XK} {G H : Hp} {l C : Addr} {as : List (Addr × Addr)} {ws : List WayD} {σ : L2.St} {vd : V} {d : PyData} {Q : VK} {fp : List Addr}
theorem drawAll_nx {g : List PyData → R PyData} {wd : WayD} {nm : Str} {m : Int} {c : Nat} : ∀ {ns : List Nat}, drawAll g wd nm m ns ≠ .ex c
  | [], h => by cases h
  | n :: ns, h => by
    unfold drawAll at h
    cases q : drw1 g wd nm (0 + (n : Int)) m with
    | ok w =>
      rw [q] at h
      cases q2 : drawAll g wd nm m ns with
      | ok ws => rw [q2] at h; cases h
      | ex c => rw [q2] at h; cases h
      | no => rw [q2] at h; cases h
    | ex c => rw [q] at h; cases h
    | no => rw [q] at h; cases h
theorem seq_el {α : Type} {l : List α} {i : Nat} {x : α} (h : l[i]? = some x) : l = l.take i ++ (x :: l.drop (i + 1)) := by
  obtain ⟨hi, e⟩ := List.getElem?_eq_some_iff.mp h
  rw [← e, ← List.drop_eq_getElem_cons hi, List.take_append_drop]
theorem steps_ok (Wc : WayC K C) {G0 H0 : Hp} {fp0 : List Addr} {D : Ends} (W : WG K G0 H0 fp0 G H [l] as ws) (hl : H l = some (.lst (as.map fun p => V.ref p.1))) (hσ : σ.length = 6) (h0 : σ[0]? = some (some (.ref l))) 
    (hD : ∀ σ' H', WG K G0 H0 fp0 G H' [l] as (ws.map incW) → H' l = some (.lst (as.map fun p => V.ref p.1)) → σ'.length = 6 → (∀ i, i ≠ 2 → σ'[i]? = σ[i]?) → D.nx σ' H') : rdSteps K D σ H := by
  have al := W.wa.len
  refine ⟨.ref l, h0, l, rfl, ⟨_, SqL.of hl⟩, ?_⟩
  refine for_it (walk_list (xs := as.map fun p => V.ref p.1)) (fun i σ' H' => σ'.length = 6 ∧ (∀ j, j ≠ 2 → σ'[j]? = σ[j]?) ∧ H' l = some (.lst (as.map fun p => V.ref p.1)) ∧ WG K G0 H0 fp0 G H' [l] as ((ws.take i).map incW ++ ws.drop i)) ⟨hσ, fun _ _ => rfl, hl, by simpa using W⟩ ?_ ?_ ?_
  · rintro i σ' H' _ ⟨_, _, h, _⟩
    exact SqL.of h
  · rintro i x σ' H' H'' hi ⟨s1, s2, s3, W'⟩ ⟨rfl, hx⟩
    rw [List.length_map] at hi
    rw [List.getElem?_map] at hx
    cases hp : as[i]? with
    | none => rw [hp] at hx; cases hx
    | some p =>
      rw [hp] at hx
      cases hx
      have hiw : i < ws.length := by omega
      have ea := seq_el hp
      have ew : ws.drop i = ws[i] :: ws.drop (i + 1) := List.drop_eq_getElem_cons hiw
      have tl : (as.take i).length = ((ws.take i).map incW).length := by simp; omega
      have W2 := W'
      rw [ew] at W2
      have W3 : WG K G0 H0 fp0 G H'' [l] (as.take i ++ (p :: as.drop (i + 1))) ((ws.take i).map incW ++ (ws[i] :: ws.drop (i + 1))) := by rw [← ea]; exact W2
      obtain ⟨C', dx, vt, vs, kvs, hC, a1, _⟩ := id (W3.mid tl)
      rw [Wc.at'] at hC
      cases hC
      have g2 : (σ'.set 2 (some (V.ref p.1)))[2]? = some (some (V.ref p.1)) := by rw [List.getElem?_set_self (by omega)]
      refine ⟨.ref p.1, g2, p.1, C, dx, _, _, rfl, a1, Wc.c, Wc.n3, lk_steps _ _ _ _, _, 1, rfl, rfl, .ref p.1, g2, p.1, C, dx, _, rfl, a1, Wc.c, Wc.n3, by simp, ?_⟩
      have W4 := W3.step (n := ws[i].steps + 1) tl a1
      rw [← ea] at W4
      have pl : p.1 ≠ l := by
        have := W3.nd
        simp at this
        rintro rfl
        exact this.1.2.1 rfl
      refine ⟨by simp [s1], fun j hj => by rw [List.getElem?_set_ne (Ne.symm hj)]; exact s2 j hj, by rw [upd_ne (Ne.symm pl)]; exact s3, ?_⟩
      have e3 : (ws.take (i + 1)).map incW ++ ws.drop (i + 1) = (ws.take i).map incW ++ ({ ws[i] with steps := ws[i].steps + 1 } :: ws.drop (i + 1)) := by
        rw [List.take_succ_eq_append_getElem hiw, List.map_append, List.append_assoc]
        rfl
      rw [e3]
      exact W4
  · rintro σ' H' ⟨s1, s2, s3, W'⟩
    rw [List.length_map, al, List.take_length, List.drop_length, List.append_nil] at W'
    exact hD σ' H' W' s3 s1 s2
/-- again: the block so often -/
theorem again_ok {ga : List WayD → PyData → R (List WayD)} {G0 H0 : Hp} {fp0 : List Addr} {nx : L2.St → Hp → Prop} (W : WG K G0 H0 fp0 G H [l] as ws) (hl : H l = some (.lst (as.map fun p => V.ref p.1))) (t : Tbs G) (hσ : σ.length = 6) (h0 : σ[0]? = some (some (.ref l))) (h1 : σ[1]? = some (some vd)) (rd : Rep K G vd d) {k : Int} (hk : -lim < k ∧ k < lim) (q1 : eD 1 (denv d) = .ok (.int k)) (p : PostW K ec G0 H0 fp0 Q E (iterA ga (eD 2 (denv d)) k.toNat ws)) :
    rdAgain K ec (fun cls d _ H => E cls d H) ga { nx := nx, rt := Q } σ H := by
  refine ⟨G, _, W.fr.i, denv_ok t hσ h1 rd, ?_⟩
  have ei : iCall rng1 [eD 1] (denv d) = .ok (rngF 0 k.toNat) := by
    have : aAll [eD 1] (denv d) = .ok [.int k] := by
      unfold aAll
      rw [q1]
      rfl
    unfold iCall
    rw [this, R.bind_ok]
    unfold rng1
    dsimp only
    rw [if_pos hk]
  rw [ei]
  intro J G1 H1 e1 wk
  have rl : (rngF 0 k.toNat).length = k.toNat := by unfold rngF; simp
  have wk' : Walk J (rngF 0 k.toNat).length (fun H => Same G1 H) (fun i H x H' => ∀ Gc d, (rngF 0 k.toNat)[i]? = some d → Same G1 Gc → Same Gc H → ∃ Gc', Ext Gc H Gc' H' ∧ Rep K Gc' x d) :=
    ⟨fun i H hi s => wk.go i H hi s, fun H s => wk.stop H s, fun i H x H' hi s y Gc d hd s1 s2 => wk.yld i Gc H x H' d hd s1 s2 y⟩
  refine for_it wk' (fun i σ H2 => ∃ G2 l2 as2 ws2, Same G1 G2 ∧ WG K G0 H0 fp0 G2 H2 [l2] as2 ws2 ∧ H2 l2 = some (.lst (as2.map fun p => V.ref p.1)) ∧ σ[0]? = some (some (.ref l2)) ∧ σ[1]? = some (some vd) ∧ σ.length = 6 ∧ PostW K ec G0 H0 fp0 Q E (iterA ga (eD 2 (denv d)) (k.toNat - i) ws2))
    ⟨G1, l, as, ws, Same.refl _, W.ext e1, e1.h.lst hl, h0, h1, hσ, p⟩ ?_ ?_ ?_
  · rintro i σ H2 _ ⟨G2, l2, as2, ws2, g2, W2, _⟩
    exact g2.trans W2.fr.i
  · rintro i x σ H2 H2' hi ⟨G2, l2, as2, ws2, g2, W2, hl2, hs, hs1, hsl, p2⟩ y
    rw [rl] at hi
    have hd : (rngF 0 k.toNat)[i]? = some (.int (0 + (i : Int))) := by unfold rngF; simp [hi]
    obtain ⟨G3, e3, r3⟩ := y G2 _ hd g2 W2.fr.i
    have W3 := W2.ext e3
    have ts : Same G G3 := (e1.g.trans g2).trans e3.g
    rw [show k.toNat - i = (k.toNat - (i + 1)) + 1 by omega, iterA] at p2
    have s0 : (σ.set 4 (some x))[0]? = some (some (.ref l2)) := by rw [List.getElem?_set_ne (by decide)]; exact hs
    have s1 : (σ.set 4 (some x))[1]? = some (some vd) := by rw [List.getElem?_set_ne (by decide)]; exact hs1
    have sl : (σ.set 4 (some x)).length = 6 := by simp [hsl]
    refine ⟨.ref l2, s0, G3, _, W3.fr.i, denv_ok (t.mono ts) sl s1 (rd.mono ts), ?_⟩
    cases qb : eD 2 (denv d) with
    | no => rw [qb] at p2; exact p2.elim
    | ex c => rw [qb] at p2; exact p2.elim
    | ok blk =>
      rw [qb] at p2
      have p2 : PostW K ec G0 H0 fp0 Q E ((ga ws2 blk).bind (iterA ga (.ok blk) (k.toNat - (i + 1)))) := p2
      intro vb G4 H4 e4 rb
      have W4 := W3.ext e4
      refine ⟨rfl, l2, vb, G4, as2, ws2, blk, rfl, (t.mono ts).mono e4.g, W4.fr.i, (W4.gx l2 (by simp)).1, W4.nd, W4.wa, e4.h.lst (e3.h.lst hl2), rb, ?_⟩
      cases qg : ga ws2 blk with
      | no => rw [qg] at p2; exact p2.elim
      | ex c =>
        rw [qg] at p2
        exact fun H' s => p2 H' ((W4.outer (fp := l2 :: fpW as2) fun a ha => ha).trans s)
      | ok ws' =>
        rw [qg, R.bind_ok] at p2
        intro G' H' l' as' C hl'
        refine ⟨G', l', as', ws', ((g2.trans e3.g).trans e4.g).trans C.fr.g, W4.call0 C, hl', ?_, ?_, by simp [sl], p2⟩
        · rw [List.getElem?_set_self (by simp [sl])]
        · rw [List.getElem?_set_ne (by decide)]; exact s1
  · rintro σ H2 ⟨G2, l2, as2, ws2, g2, W2, hl2, hs, hs1, hsl, p2⟩
    rw [rl, Nat.sub_self] at p2
    exact ⟨.ref l2, hs, p2 G2 H2 l2 as2 W2 hl2⟩
/-- the ways, one after another -/
theorem ways_ok (Wc : WayC K C) {ga : List WayD → PyData → R (List WayD)} {gw gt : List PyData → R PyData} {G0 H0 : Hp} {fp0 : List Addr} {D : Ends} {lf : Addr} {F : R (List WayD) → Prop} (W : WG K G0 H0 fp0 G H [lf, l] as ws) (hl : H l = some (.lst (as.map fun p => V.ref p.1))) (hf : H lf = some (.lst [])) (t : Tbs G) (hσ : σ.length = 6) (h0 : σ[0]? = some (some (.ref l))) (h1 : σ[1]? = some (some vd)) (h3 : σ[3]? = some (some (.ref lf))) (rd : Rep K G vd d)
    (p : F (goW ga gw gt d ws [])) (hN : ¬ F .no) (hE : ∀ c, F (.ex c) → ∀ H', Same (delF H0 fp0) H' → E (.ref (ec c)) none H')
    (hD : ∀ found σ' G' H' as', F (.ok found) → Same G G' → WG K G0 H0 fp0 G' H' [lf, l] as' found → H' lf = some (.lst (as'.map fun p => V.ref p.1)) → σ'.length = 6 → σ'[3]? = some (some (.ref lf)) → D.nx σ' H') :
    rdWays K ec (fun cls d _ H => E cls d H) C ga gw gt D σ H := by
  have al := W.wa.len
  refine ⟨.ref l, h0, l, rfl, ⟨_, SqL.of hl⟩, ?_⟩
  refine for_it (walk_list (xs := as.map fun p => V.ref p.1)) (fun i σ' H' => ∃ G2 as1 vs1, σ'.length = 6 ∧ σ'[1]? = some (some vd) ∧ σ'[3]? = some (some (.ref lf)) ∧ H' l = some (.lst (as.map fun p => V.ref p.1)) ∧ H' lf = some (.lst (as1.map fun p => V.ref p.1)) ∧ Same G G2 ∧ as1.length = vs1.length ∧ WG K G0 H0 fp0 G2 H' [lf, l] (as1 ++ as.drop i) (vs1 ++ ws.drop i) ∧ F (goW ga gw gt d (ws.drop i) vs1))
    ⟨G, [], [], hσ, h1, h3, hl, hf, Same.refl _, rfl, by simpa using W, p⟩ ?_ ?_ ?_
  · rintro i σ' H' _ ⟨_, _, _, _, _, _, h, _⟩
    exact SqL.of h
  · rintro i x σ' H' H'' hi ⟨G2, as1, vs1, s1, s2, s3, hl', hf', g2, la, W', p'⟩ ⟨rfl, hx⟩
    rw [List.length_map] at hi
    rw [List.getElem?_map] at hx
    cases hp : as[i]? with
    | none => rw [hp] at hx; cases hx
    | some pp =>
      rw [hp] at hx
      cases hx
      have hiw : i < ws.length := by omega
      obtain ⟨hia, epp⟩ := List.getElem?_eq_some_iff.mp hp
      rw [List.drop_eq_getElem_cons hia, epp, List.drop_eq_getElem_cons hiw] at W'
      rw [List.drop_eq_getElem_cons hiw, goW] at p'
      have q2 : (σ'.set 2 (some (V.ref pp.1)))[2]? = some (some (V.ref pp.1)) := by rw [List.getElem?_set_self (by omega)]
      have q1 : (σ'.set 2 (some (V.ref pp.1)))[1]? = some (some vd) := by rw [List.getElem?_set_ne (by decide)]; exact s2
      have q3 : (σ'.set 2 (some (V.ref pp.1)))[3]? = some (some (.ref lf)) := by rw [List.getElem?_set_ne (by decide)]; exact s3
      have ql : (σ'.set 2 (some (V.ref pp.1))).length = 6 := by simp [s1]
      show tIfS _ _ _ _ (σ'.set 2 (some (V.ref pp.1))) H''
      generalize σ'.set 2 (some (V.ref pp.1)) = τ at *
      have t2 := t.mono g2
      have rd2 := rd.mono g2
      generalize hw : ws[i] = w0 at *
      unfold oneW at p'
      refine ⟨G2, _, W'.fr.i, denv_ok t2 ql q1 rd2, ?_⟩
      cases b1 : bD "draw" (denv d) with
      | no => rw [b1] at p'; exact absurd p' hN
      | ex c => rw [b1] at p'; exact absurd p' hN
      | ok z1 =>
        rw [b1] at p'
        have p' : F ((if z1 = true then oneDr gt d w0 else (bD "if" (denv d)).b0 fun b2 => if b2 = true then oneIf ga gw d w0 else (onePS gw d w0).b0 fun w => .ok [w]).bind fun new => if vs1.length + new.length < szl then goW ga gw gt d (ws.drop (i + 1)) (vs1 ++ new) else .no) := p'
        intro H3 e3
        have W3 := W'.ext (Ext.heap W'.fr.i e3)
        have hf3 := e3.lst hf'
        have hl3 := e3.lst hl'
        cases z1 with
        | true =>
          rw [if_pos rfl] at p'
          refine iteT ?_
          cases qr : oneDr gt d w0 with
          | no => rw [qr] at p'; exact absurd p' hN
          | ex c =>
            exfalso
            unfold oneDr at qr
            cases x1 : eD 2 (denv d) with
            | ok a =>
              rw [x1] at qr
              cases x2 : eD 1 (denv d) with
              | ok b =>
                rw [x2] at qr
                have qr : (match a, b with
                  | .int m, .str nm => if -lim < m ∧ m < lim then drawAll gt w0 nm m (List.range m.toNat) else .no
                  | _, _ => .no) = R.ex c := qr
                split at qr
                · split at qr
                  · exact drawAll_nx qr
                  · cases qr
                · cases qr
              | ex c => rw [x2] at qr; cases qr
              | no => rw [x2] at qr; cases qr
            | ex c => rw [x1] at qr; cases qr
            | no => rw [x1] at qr; cases qr
          | ok new =>
            rw [qr, R.bind_ok] at p'
            split at p'
            · rename_i hz
              refine dr_way Wc W3 la hf3 hl3 t2 ql q1 q2 q3 rd2 qr (by rw [la]; exact Nat.le_of_lt hz) fun G' H' as' g' W4 a4 f4 l4 => ⟨G', as1 ++ as', vs1 ++ new, ql, q1, q3, l4, f4, g2.trans g', by simp [la, a4], by simpa using W4, p'⟩
            · exact absurd p' hN
        | false =>
          rw [if_neg (by simp)] at p'
          refine iteF ⟨G2, _, W3.fr.i, denv_ok t2 ql q1 rd2, ?_⟩
          cases b2 : bD "if" (denv d) with
          | no => rw [b2] at p'; exact absurd p' hN
          | ex c => rw [b2] at p'; exact absurd p' hN
          | ok z2 =>
            rw [b2] at p'
            have p' : F ((if z2 = true then oneIf ga gw d w0 else (onePS gw d w0).b0 fun w => .ok [w]).bind fun new => if vs1.length + new.length < szl then goW ga gw gt d (ws.drop (i + 1)) (vs1 ++ new) else .no) := p'
            intro H4 e4
            have W4 := W3.ext (Ext.heap W3.fr.i e4)
            have hf4 := e4.lst hf3
            have hl4 := e4.lst hl3
            cases z2 with
            | true =>
              rw [if_pos rfl] at p'
              refine iteT (if_way W4 la hf4 hl4 t2 ql q1 q2 q3 rd2 rfl (fun new hn => ?_) (fun c hc => ?_) fun hno => ?_)
              · rw [hn, R.bind_ok] at p'
                split at p'
                · rename_i hz
                  exact ⟨by rw [la]; exact Nat.le_of_lt hz, fun G' H' as' g' W5 a5 f5 l5 => ⟨G', as1 ++ as', vs1 ++ new, ql, q1, q3, l5, f5, g2.trans g', by simp [la, a5], by simpa using W5, p'⟩⟩
                · exact absurd p' hN
              · rw [hc] at p'
                exact fun H' s => hE c p' H' s
              · rw [hno] at p'
                exact hN p'
            | false =>
              rw [if_neg (by simp)] at p'
              refine iteF ?_
              cases qr : onePS gw d w0 with
              | no => rw [qr] at p'; exact absurd p' hN
              | ex c => rw [qr] at p'; exact absurd p' hN
              | ok w1 =>
                rw [qr] at p'
                have p' : F (if vs1.length + [w1].length < szl then goW ga gw gt d (ws.drop (i + 1)) (vs1 ++ [w1]) else .no) := p'
                split at p'
                · rename_i hz
                  refine ps_way Wc W4 la hf4 hl4 t2 ql q1 q2 q3 rd2 (by rw [la]; simp at hz; omega) qr fun τ' G' H' g' W5 f5 l5 tl te => ⟨G', as1 ++ [pp], vs1 ++ [w1], tl, by rw [te 1 (by decide)]; exact q1, by rw [te 3 (by decide)]; exact q3, l5, f5, g2.trans g', by simp [la], by simpa using W5, p'⟩
                · exact absurd p' hN
  · rintro σ' H' ⟨G2, as1, vs1, s1, s2, s3, hl', hf', g2, la, W', p'⟩
    rw [List.length_map, List.drop_length, List.append_nil] at W'
    rw [List.length_map, al, List.drop_length] at p'
    rw [al, List.drop_length, List.append_nil] at W'
    exact hD vs1 σ' G2 H' as1 p' g2 W' hf' s1 s3
end
end PL
/-! PL, part ai: after_deed keeps its promise. -/
namespace PL
open PySem PySem.Spec PyProof.Rows L2
section
variable {K : PySem.W.Frag} {ec : Nat → Addr} {E : XK} {G H : Hp} {as : List (Addr × Addr)} {σ : L2.St} {Q : VK} {fp : List Addr} {G0 H0 : Hp} {fp0 : List Addr}
theorem str_none {xs : List Addr} {ws : List WayD} (t : Tbs G0) (W : WG K G0 H0 fp0 G H xs as ws) (hσ : σ.length = 6) : StR K G0 (delF H0 fp0) G H σ (List.replicate 6 .no) := by
  have no : ∀ (i : Nat) (s : Sl), (List.replicate 6 Sl.no)[i]? = some s → s = .no := fun i s h => by
    rw [List.getElem?_replicate] at h
    split at h
    · cases h; rfl
    · cases h
  refine ⟨t, ⟨W.fr.g, W.fr.h, W.fr.i, fun b h1 h2 => ?_⟩, by simp [hσ], fun i d h => ?_, fun i d h => ?_, fun i j d d' l _ h => ?_, ObS.no fun i d h => ?_⟩
  · by_cases z : b ∈ fp0
    · exact delF_in z
    · rw [delF_out z]; exact W.fr.f b h1 h2
  · cases no i _ h
  · cases no i _ h
  · cases no i _ h
  · cases no i _ h
end
section
variable {P : Program} {w : World} {K : PySem.W.Frag} {mg : Str → Option Value} {base : Heap}
theorem fn_deed {ec : Nat → Addr} {x qual : Str} {st : Stmt} {f C : Addr} {fd : FuncData} {k many c : Nat} {ga : List WayD → PyData → R (List WayD)} {gw gt : List PyData → R PyData} {nm ps : List Str} (F : Fun K x qual st f fd) (S : FnScope nm ps (defScope st)) (hn : nm.length = 6) (hp : ps.length = 2) (Wc : WayC K C)
    (hbody : ∀ (cdv : Value) (A : Around) (outer : List Env) (s : Shared) (H : Hp) (E : XK) (Ga Ha : Hp), Room k (A.deeper (envOfC qual (defScope st) s.heap.objs.size f cdv)) →
      PSs (cxOf (L2N.CX P w) P w K mg base nm qual (defScope st) f cdv A outer s H E) (defBody st)
        (tSeq (rdSteps K) (tSeq (tIfS (tDT K ec (fun cls d _ H => E cls d H) (bD "again")) (rdAgain K ec (fun cls d _ H => E cls d H) ga) tNext) (tSeq (tAsg (tLst tNil) (gName 3)) (tSeq (rdWays K ec (fun cls d _ H => E cls d H) C ga gw gt) (tSeq (rdMany K ec (fun cls d _ H => E cls d H) Ga Ha (many : Int) c) (tRet (tVar 3)))))))) :
    FnOk P w K mg base (L2N.CX P w) (k + 1) f fd ps (spW K ec (gDeed many c ga gw gt)) := by
  obtain ⟨oc, od, kV, doc, pm, an, cdv, ct, osl, rfl, lk, hcd⟩ := F.ex
  refine fn_of lk hcd S (fun vs H Q E h => by rw [h.1, hp]) fun A outer s H vs Q E hr h => ?_
  obtain ⟨hl, l, vd, G, as, ws, d, rfl, t, i, gl, nd, wa, hls, rd, p⟩ := h
  refine ⟨_, hbody cdv A outer s H E G (delF H (l :: fpW as)) hr, ?_⟩
  have s0 : (start nm [V.ref l, vd])[0]? = some (some (V.ref l)) := by unfold L2.start; simp
  have s1 : (start nm [V.ref l, vd])[1]? = some (some vd) := by unfold L2.start; simp
  have sl : (start nm [V.ref l, vd]).length = 6 := by unfold L2.start; simp [hn]
  generalize start nm [V.ref l, vd] = σ at *
  have W0 := wg_start i gl nd wa hls
  refine steps_ok Wc W0 hls sl s0 fun σ1 H1 W1 l1 sl1 se1 => ?_
  have a0 : σ1[0]? = some (some (.ref l)) := by rw [se1 0 (by decide)]; exact s0
  have a1 : σ1[1]? = some (some vd) := by rw [se1 1 (by decide)]; exact s1
  refine ⟨G, _, W1.fr.i, denv_ok t sl1 a1 rd, ?_⟩
  unfold gDeed at p
  cases qb : bD "again" (denv d) with
  | no => rw [qb] at p; exact p.elim
  | ex c => rw [qb] at p; exact p.elim
  | ok b =>
    rw [qb] at p
    intro H2 e2
    have W2 := W1.ext (Ext.heap W1.fr.i e2)
    have l2 := e2.lst l1
    cases b with
    | true =>
      refine iteT ?_
      have p : PostW K ec G H (l :: fpW as) Q E ((eD 1 (denv d)).b0 fun kd => match kd with
        | .int k => if -lim < k ∧ k < lim then iterA ga (eD 2 (denv d)) k.toNat (ws.map incW) else .no
        | _ => .no) := p
      cases qk : eD 1 (denv d) with
      | no => rw [qk] at p; exact p.elim
      | ex c => rw [qk] at p; exact p.elim
      | ok kd =>
        rw [qk] at p
        cases kd with
        | int k =>
          have p : PostW K ec G H (l :: fpW as) Q E (if -lim < k ∧ k < lim then iterA ga (eD 2 (denv d)) k.toNat (ws.map incW) else .no) := p
          split at p
          · rename_i hk
            exact again_ok W2 l2 t sl1 a0 a1 rd hk qk p
          · exact p.elim
        | _ => exact p.elim
    | false =>
      refine iteF ?_
      have p : PostW K ec G H (l :: fpW as) Q E ((goW ga gw gt d (ws.map incW) []).bind (finW many c)) := p
      refine ⟨by simp, fun lf nlf => ?_⟩
      have W3 := W2.new nlf (raw_lst [])
      have f3 : upd H2 lf (.lst []) lf = some (.lst []) := upd_same
      have l3 : upd H2 lf (.lst []) l = some (.lst (as.map fun p => V.ref p.1)) := (same_new nlf).lst l2
      generalize upd H2 lf (.lst []) = H3 at *
      have b0 : (σ1.set 3 (some (V.ref lf)))[0]? = some (some (.ref l)) := by rw [List.getElem?_set_ne (by decide)]; exact a0
      have b1 : (σ1.set 3 (some (V.ref lf)))[1]? = some (some vd) := by rw [List.getElem?_set_ne (by decide)]; exact a1
      have b3 : (σ1.set 3 (some (V.ref lf)))[3]? = some (some (.ref lf)) := by rw [List.getElem?_set_self (by omega)]
      have bl : (σ1.set 3 (some (V.ref lf))).length = 6 := by simp [sl1]
      refine ways_ok Wc (F := fun r => PostW K ec G H (l :: fpW as) Q E (r.bind (finW many c))) W3 l3 f3 t bl b0 b1 b3 rd p (fun z => z) (fun c z => z) fun found σ4 G4 H4 as4 pf g4 W4 f4 sl4 s4 => ?_
      have pf : PostW K ec G H (l :: fpW as) Q E (finW many c found) := pf
      have fl := W4.wa.len
      refine ⟨.ref lf, s4, lf, _, rfl, .inl (SqL.of f4), _, (many : Int), rfl, rfl, _, rfl, ?_⟩
      unfold finW at pf
      by_cases z : many < found.length
      · rw [if_pos z] at pf
        have e : decide ((many : Int) < ((as4.map fun p => V.ref p.1).length : Nat)) = true := decide_eq_true (by rw [List.length_map, fl]; omega)
        rw [e]
        refine iteT ⟨G4, _, str_none t W4 sl4, fun σ5 H5 s5 => ?_⟩
        exact pf H5 s5
      · rw [if_neg z] at pf
        have e : decide ((many : Int) < ((as4.map fun p => V.ref p.1).length : Nat)) = false := decide_eq_false (by rw [List.length_map, fl]; omega)
        rw [e]
        refine iteF ⟨.ref lf, s4, pf G4 H4 lf as4 (W4.sub W4.wa (fun a ha => by simp at ha; simp [ha]) ?_ fun a ha => List.mem_append_right _ ha) f4⟩
        have := W4.nd
        simp only [List.cons_append, List.nil_append, List.nodup_cons, List.mem_cons, not_or] at this ⊢
        exact ⟨this.1.2, this.2.2⟩
end
end PL
/-! PL, part aj: zip of a list and a tuple. -/
namespace PL
open PySem PySem.Spec PyProof.Rows L2
def ItzM (K : PySem.W.Frag) (a b : Addr) : It :=
  ⟨fun i H => ∃ (xs ys : List V) (x y : V), SqL K H a xs ∧ SqT K H b ys ∧ xs[i]? = some x ∧ ys[i]? = some y,
    fun i H v H' => ∃ T x y, v = .ref T ∧ H T = none ∧ H' = upd H T (.tup [x, y]) ∧ (∀ xs, SqL K H a xs → xs[i]? = some x) ∧ ∀ ys, SqT K H b ys → ys[i]? = some y,
    fun i H => ∃ xs ys : List V, SqL K H a xs ∧ SqT K H b ys ∧ i = min xs.length ys.length⟩
theorem turn_zipM {P : Program} {w : World} {K : PySem.W.Frag} {elts : List Expr} {kk : Nat} {tpos : Pos} {a b z TI TO i1 i2 : Addr} (D : ZipSep2 z TI TO i1 i2 [i1, a] [i2, b]) (n1 : a ≠ i1) (n2 : b ≠ i2) :
    Turn P w K (.Tuple elts kk tpos) (ItzM K a b) [z, TI, TO, i1, i2] z (fun i h => IsZip h z TI TO .none ∧ IsTupOf2 h TI (.ref i1) (.ref i2) ∧ (∃ x y, IsTupOf2 h TO x y) ∧ h.IsListIter i1 a i ∧ h.IsTupleIter i2 b i) where
  mem := by simp
  obj := fun i h st c hc => by
    obtain ⟨hz, hTI, ⟨x, y, hTO⟩, ⟨o1, e1, _, d1⟩, ⟨o2, e2, _, d2⟩⟩ := st
    have e' : c = z ∨ c = TI ∨ c = TO ∨ c = i1 ∨ c = i2 := by simpa using hc
    rcases e' with q | q | q | q | q
    · rw [q]; exact ⟨_, hz, fun v q => nomatch q⟩
    · rw [q]; exact ⟨_, hTI, fun v q => nomatch q⟩
    · rw [q]; exact ⟨_, hTO, fun v q => nomatch q⟩
    · rw [q]; exact ⟨o1, e1, fun v q => by rw [d1] at q; cases q⟩
    · rw [q]; exact ⟨o2, e2, fun v q => by rw [d2] at q; cases q⟩
  keep := fun i h h' st k => by
    obtain ⟨hz, hTI, ⟨x, y, hTO⟩, h1, h2⟩ := st
    exact ⟨k z (by simp) _ hz, k TI (by simp) _ hTI, ⟨x, y, k TO (by simp) _ hTO⟩, h1.at fun o q => k i1 (by simp) o q, h2.at fun o q => k i2 (by simp) o q⟩
  item := by
    intro X hP hw hK hc i pins s σ H E I hf st hg
    subst hP hw hK
    obtain ⟨hz, hTI, ⟨x0, y0, hTO⟩, h1, h2⟩ := st
    obtain ⟨xs, ys, x, y, hqx, hqy, hx, hy⟩ := hg
    obtain ⟨its, rv, p, _⟩ := I.list hqx
    obtain ⟨its2, rv2, p2, _⟩ := I.tuple hqy
    obtain ⟨u, hu, ru⟩ := rv.get hx
    obtain ⟨u2, hu2, ru2⟩ := rv2.get hy
    have hzl : z < s.heap.objs.size := Heap.lt_size hz
    have hd : X.A.in1.handled = none := I.ok.hd hc
    have D1 := Draws.list (prog := X.prog) (w := X.w) hd i1 a n1 its.toArray
    have D2 := Draws.tuple (prog := X.prog) (w := X.w) hd i2 b n2 its2.toArray
    refine wpAny_pyNext_zipD2_item D D1 D2 hz hTI hTO ⟨h1, p.isList⟩ ⟨h2, p2⟩ (by simpa using (List.getElem?_eq_some_iff.mp hu).1) (by simpa using (List.getElem?_eq_some_iff.mp hu2).1) fun x1 x2 h' tk y1 y2 z' TO' h1' h2' hT hsz hk => ?_
    have y1 : its.toArray[i]? = some x1 := y1
    have y2 : its2.toArray[i]? = some x2 := y2
    rw [List.getElem?_toArray, hu] at y1
    rw [List.getElem?_toArray, hu2] at y2
    cases y1
    cases y2
    refine ⟨_, rfl, wpAny_letOwnedTupleGo_zip (s := { s with heap := h', toks := tk }) z' fun h'' z'' sb => ?_⟩
    have hT2 : h''.get? s.heap.objs.size = some { cls := .type "tuple", data := .seq #[u, u2] } := (sb.2 _ (Nat.ne_of_gt hzl)).trans hT
    have new : ObjOk X.prog X.w (upd H s.heap.objs.size (.tup [x, y])) h'' s.heap.objs.size (.tup [x, y]) :=
      ⟨by show 2 ≤ sizeLine; decide, [u, u2], .cons ru (.cons ru2 .nil), ⟨_, hT2, rfl, _, rfl⟩⟩
    have I1 : Inv X pins σ (upd H s.heap.objs.size (.tup [x, y])) { s with heap := h'', toks := tk } :=
      I.turnedNew (t' := tk) (ch := [z, TI, TO, i1, i2]) (fun c o hb q => (sb.2 c (fun q' => hb (by simp [q']))).trans (hk c o (fun q' => hb (by simp [q'])) (fun q' => hb (by simp [q'])) (fun q' => hb (by simp [q'])) (fun q' => hb (by simp [q'])) q)) hf (Nat.le_refl _) new
    refine ⟨.ref s.heap.objs.size, _, I1, rfl, ⟨_, x, y, rfl, I.hok.fresh (Nat.le_refl _), rfl, fun l hl => by rw [I.list_inj hl hqx]; exact hx, fun l hl => by rw [I.tuple_inj hl hqy]; exact hy⟩, ⟨z'', ?_, ⟨u, u2, ?_⟩, ?_, ?_⟩, fun c hcm => ?_⟩
    · exact (sb.2 _ D.TIz).trans (hk _ _ D.TIz D.TITO D.TIi1 D.TIi2 hTI)
    · exact (sb.2 _ D.TOz).trans TO'
    · exact h1'.1.at fun o q => (sb.2 _ D.zi1.symm).trans q
    · exact h2'.1.at fun o q => (sb.2 _ D.zi2.symm).trans q
    · have hlt : c < s.heap.objs.size := by
        have e' : c = z ∨ c = TI ∨ c = TO ∨ c = i1 ∨ c = i2 := by simpa using hcm
        rcases e' with q | q | q | q | q
        · rw [q]; exact hzl
        · rw [q]; exact Heap.lt_size hTI
        · rw [q]; exact Heap.lt_size hTO
        · rw [q]; obtain ⟨_, e1, _⟩ := h1; exact Heap.lt_size e1
        · rw [q]; obtain ⟨_, e2, _⟩ := h2; exact Heap.lt_size e2
      rw [upd_ne (Nat.ne_of_lt hlt)]
      exact (hf c hcm).1
  done := by
    intro X hP hw hK hc i pins s σ H E I hf st hg
    subst hP hw hK
    obtain ⟨hz, hTI, ⟨x0, y0, hTO⟩, h1, h2⟩ := st
    obtain ⟨xs, ys, hqx, hqy, hend⟩ := hg
    obtain ⟨its, rv, p, _⟩ := I.list hqx
    obtain ⟨its2, rv2, p2, _⟩ := I.tuple hqy
    have l1 := rv.length
    have l2 := rv2.length
    have hd : X.A.in1.handled = none := I.ok.hd hc
    have D1 := Draws.list (prog := X.prog) (w := X.w) hd i1 a n1 its.toArray
    have D2 := Draws.tuple (prog := X.prog) (w := X.w) hd i2 b n2 its2.toArray
    exact wpAny_pyNext_zipD2_end D D1 D2 hz hTI hTO ⟨h1, p.isList⟩ ⟨h2, p2⟩ (by simp; omega) (by simp; omega) (by simp; omega) fun h' tk hk => ⟨rfl, I.turnedL (t' := tk) (ch := [z, TI, TO, i1, i2]) (fun c o hb q =>
      hk c o (fun q' => hb (by simp [q'])) (fun q' => hb (by simp [q'])) (fun q' => hb (by simp [q'])) (fun q' => hb (by simp [q'])) q) hf⟩
  self := fun A i s Q E st h => wpAny_pyIter_zip st.1 h
def iZipM (K : PySem.W.Frag) (ta : TA) : TI := fun σ H R => ta σ H fun vs H1 => ∃ a b xs ys, vs = [.ref a, .ref b] ∧ SqL K H1 a xs ∧ SqT K H1 b ys ∧ R (ItzM K a b) H1
theorem pi_zipM {X : Cx} {e e2 : Expr} {ta : TA} {p pos tpos : Pos} {elts : List Expr} {kk : Nat} (hg : Gl X "zip") (hm : X.mg "zip" = none) (ha : PA X [e, e2] ta)
    (hs : starEach [e, e2] X.env = (false, eval e X.env) :: starEach [e2] X.env := by rfl) (hpl : (backTo pos (starEach [e2] X.env)).any (·.1) = false := by rfl) :
    PI X (.Tuple elts kk tpos) (.Call (.Name "zip" p) [e, e2] [] pos) (iZipM X.K ta) := by
  refine ⟨fun pins s σ H R I h => ?_⟩
  refine Call_ (ld_blt I hg hm PyProof.Rows.boot_zip (PyProof.Rows.callWith_type1 (thn (ha.run pos pins s σ H _ I h) fun us s1 ⟨vs, H1, I1, r1, q1⟩ => ?_) hs hpl))
  obtain ⟨a, b, xs, ys, ex, hqx, hqy, q⟩ := q1
  subst ex
  cases r1 with
  | cons r rr =>
    cases rr with
    | cons r' rr =>
      cases rr
      cases r
      cases r'
      have fresh5 : ∀ c, c ∈ [s1.heap.objs.size + 4, s1.heap.objs.size + 2, s1.heap.objs.size + 3, s1.heap.objs.size, s1.heap.objs.size + 1] → FpOk X pins H1 c := fun c hcm => by
        have e' : c = s1.heap.objs.size + 4 ∨ c = s1.heap.objs.size + 2 ∨ c = s1.heap.objs.size + 3 ∨ c = s1.heap.objs.size ∨ c = s1.heap.objs.size + 1 := by simpa using hcm
        have hle : s1.heap.objs.size ≤ c := by
          rcases e' with z | z | z | z | z
          · rw [z]; exact Nat.le_add_right _ _
          · rw [z]; exact Nat.le_add_right _ _
          · rw [z]; exact Nat.le_add_right _ _
          · rw [z]; exact Nat.le_refl _
          · rw [z]; exact Nat.le_add_right _ _
        exact I1.fpOk hle (I1.hok.fresh hle)
      obtain ⟨its, rv, p1, _⟩ := I1.list hqx
      obtain ⟨its2, rv2, p2, _⟩ := I1.tuple hqy
      obtain ⟨o1, ho1, _⟩ := id p1
      obtain ⟨o2, ho2, _⟩ := id p2
      have la : a < s1.heap.objs.size := p1.lt
      have lb : b < s1.heap.objs.size := Heap.lt_size ho2
      refine zip_begins2 (begins_list a its.toArray) (begins_tuple b its2.toArray) p1.isList p2 fun h' hz hTI hTO h1 h2 hsz hk => wpAny_pyIter_zip hz ?_
      have I2 : Inv X pins σ H1 { s1 with heap := h' } := I1.kept (t' := s1.toks) hk
      exact ⟨s1.heap.objs.size + 4, [s1.heap.objs.size + 4, s1.heap.objs.size + 2, s1.heap.objs.size + 3, s1.heap.objs.size, s1.heap.objs.size + 1], _, _, H1, rfl, I2, turn_zipM (zip_sep2 (fp1 := [a]) (fp2 := [b]) (fun c hc => by rw [List.mem_singleton] at hc; subst hc; exact la) (fun c hc => by rw [List.mem_singleton] at hc; subst hc; exact lb)) (Nat.ne_of_lt la) (Nat.ne_of_lt (Nat.lt_succ_of_lt lb)), ⟨hz, hTI, ⟨_, _, hTO⟩, ⟨_, h1, rfl, rfl⟩, ⟨_, h2, rfl, rfl⟩⟩, fresh5, q⟩
end PL
/-! PL, part ak: zip of a list and a tuple over data; dict of a list of pairs; ways_of. -/
namespace PL
open PySem PySem.Spec PyProof.Rows L2
section
variable {K : PySem.W.Frag} {G : Hp} {a b : Addr} {xs ys : List V} {ds es : List PyData}
theorem wd_zipM (h : LsL K G a xs) (r : RepA K G xs ds) (h2 : SqT K G b ys) (r2 : RepA K G ys es) : WalkD K G (ItzM K a b) (zipF ds es) := by
  have hl := r.length
  have hl2 := r2.length
  have he : (zipF ds es).length = min xs.length ys.length := by simp [zipF, hl, hl2]
  refine ⟨fun i H hi s => ?_, fun H s => ⟨xs, ys, (ls_same s h).sq, sqT_same s h2, he⟩, fun i Gc H x H' d q sG sH y => ?_⟩
  · have h1 : i < xs.length := by omega
    have h3 : i < ys.length := by omega
    exact ⟨xs, ys, xs[i], ys[i], (ls_same s h).sq, sqT_same s h2, by simp [h1], by simp [h3]⟩
  have hi : i < (zipF ds es).length := (List.getElem?_eq_some_iff.mp q).1
  obtain ⟨T, u, v, e1, e2, e3, e4, e5⟩ := y
  have e4 := e4 xs (ls_same (sG.trans sH) h).sq
  have e5 := e5 ys (sqT_same (sG.trans sH) h2)
  have hi2 : i < ds.length ∧ i < es.length := by omega
  have q1 : ds[i]? = some ds[i] := by simp [hi2.1]
  have q2 : es[i]? = some es[i] := by simp [hi2.2]
  have : d = .tuple [ds[i], es[i]] := by
    unfold zipF at q
    rw [List.getElem?_zipWith, q1, q2] at q
    exact (Option.some.inj q).symm
  subst this
  obtain ⟨w1, hw1, rw1⟩ := r.get q1
  obtain ⟨w2, hw2, rw2⟩ := r2.get q2
  rw [e4] at hw1
  rw [e5] at hw2
  cases hw1
  cases hw2
  exact pair_rep sH e2 (rw1.mono sG) (rw2.mono sG) e1 e3
end
def zipM : List PyData → R (List PyData)
  | [.list a, .tuple b] => .ok (zipF a b)
  | _ => .no
/-- pairs of a key and a value -/
def prsOf : List PyData → Option (List (Key × PyData))
  | [] => some []
  | .tuple [k, v] :: r => match keyOf k, prsOf r with
    | some kk, some t => some ((kk, v) :: t)
    | _, _ => none
  | _ :: _ => none
def dMerge (kvs : List (PyData × PyData)) (ps : List (Key × PyData)) : List (PyData × PyData) := ps.foldl (fun acc p => dPut acc p.1 p.2) kvs
def gDictP : List PyData → R PyData
  | [.list ds] => match prsOf ds with
    | some ps => .ok (.dict (dMerge [] ps))
    | none => .no
  | _ => .no
theorem merge_rep {K : PySem.W.Frag} {G : Hp} : ∀ {more : List (Key × V)} {ps : List (Key × PyData)} {kvs : List (Key × V)} {ds : List (PyData × PyData)}, Paired (fun a b => a.1 = b.1 ∧ Rep K G a.2 b.2) more ps → RepK K G kvs ds → (kvs.map (·.1)).Nodup → RepK K G (mergeK kvs more) (dMerge ds ps) ∧ ((mergeK kvs more).map (·.1)).Nodup
  | _, _, _, _, .nil, r, n => ⟨r, n⟩
  | _, _, kvs, ds, .cons (a := a) (b := b) h t, r, n => by
    obtain ⟨e, hr⟩ := h
    have r' := RepK.put a.1 hr r
    have := merge_rep t r' (putK_keys n)
    unfold mergeK dMerge at this ⊢
    rw [List.foldl_cons, List.foldl_cons, ← e]
    exact this
theorem prs_rep {K : PySem.W.Frag} {G H : Hp} (s : Same G H) : ∀ {vs : List V} {ds : List PyData} {ps : List (Key × PyData)}, RepA K G vs ds → prsOf ds = some ps → ∃ (as : List Addr) (kvs : List (Key × V)), vs = as.map V.ref ∧ Paired (fun p kv => SqT K H p [kV kv.1, kv.2]) as kvs ∧ Paired (fun a b => a.1 = b.1 ∧ Rep K G a.2 b.2) kvs ps
  | _, _, _, .nil, h => by cases h; exact ⟨[], [], rfl, .nil, .nil⟩
  | _, _, _, .cons (d := d) hd t, h => by
    cases hd with
    | tup ht r =>
      cases r with
      | nil => simp [prsOf] at h
      | cons r1 r =>
        cases r with
        | nil => simp [prsOf] at h
        | cons r2 r =>
          cases r with
          | nil =>
            simp only [prsOf] at h
            split at h
            · rename_i kk t' hk ht'
              cases h
              obtain ⟨as, kvs, rfl, p1, p2⟩ := prs_rep s t ht'
              have ek := kd_kv r1 hk
              subst ek
              exact ⟨_ :: as, (kk, _) :: kvs, rfl, .cons (sqT_same s ht) p1, .cons ⟨rfl, r2⟩ p2⟩
            · cases h
          | cons r3 r => simp [prsOf] at h
    | _ => simp [prsOf] at h
section
variable {X : Cx} {ec : Nat → Addr} {W : WX} {e e2 : Expr} {fs : List EF} {p pos tpos : Pos} {elts : List Expr} {kk : Nat}
theorem si_zipM (hg : Gl X "zip") (hm : X.mg "zip" = none) (ha : PA X [e, e2] (tDA X.K ec W fs)) (hs : starEach [e, e2] X.env = (false, eval e X.env) :: starEach [e2] X.env := by rfl) (hpl : (backTo pos (starEach [e2] X.env)).any (·.1) = false := by rfl) :
    PI X (.Tuple elts kk tpos) (.Call (.Name "zip" p) [e, e2] [] pos) (tDI X.K ec W (iCall zipM fs)) :=
  PI_imp (pi_zipM hg hm ha hs hpl) fun σ H Q ⟨G, env, sg, E, p⟩ => ⟨G, env, sg, E, PostI.bindL p fun vs ds G' H' q' e1 r1 p1 => by
    unfold zipM at p1
    split at p1
    · cases r1 with
      | cons a b =>
        cases b with
        | cons b c =>
          cases c
          cases a with
          | @lst l xs _ hl r =>
            cases b with
            | @tup l2 ys _ hl2 r2 => exact ⟨l, l2, xs, ys, rfl, (ls_same e1.i hl).sq, sqT_same e1.i hl2, p1 _ G' H' (Ext.refl e1.i) (wd_zipM hl r hl2 r2)⟩
    · exact p1.elim⟩
/-- dict of a list of pairs, new -/
theorem sn_dictP (hc : X.calm = true) (hg : Gl X "dict") (hm : X.mg "dict" = none) (ha : PA X [e] (tDA X.K ec W fs)) (he : starEach [e] X.env = (false, eval e X.env) :: starEach [] X.env := by rfl) : PE X (.Call (.Name "dict" p) [e] [] pos) (tDN X.K ec W (eCall gDictP fs)) :=
  PE_imp (pe_callTy (call_dictP hc) hg hm (by decide +kernel) ha (he := he) (hpl := rfl)) fun σ H Q ⟨G, env, s, E, p⟩ => ⟨G, env, s, E, PostN.bindL p fun vs ds G1 H1 q e1 r1 p1 => by
    unfold gDictP at p1
    split at p1
    · cases r1 with
      | cons a b =>
        cases b
        cases a with
        | @lst a xs es hl r =>
          split at p1
          · rename_i ps hps
            obtain ⟨as, kvs, rfl, h1, h2⟩ := prs_rep e1.i r hps
            obtain ⟨m1, m2⟩ := merge_rep h2 RepK.nil (by simp)
            exact ⟨a, as, kvs, rfl, (ls_same e1.i hl).sq, h1, fun l nl => p1 l G1 _ (Ext.heap e1.i (same_new nl)) nl (e1.i.free nl) (.inl ⟨_, upd_same, m2, m1⟩)⟩
          · exact p1.elim
    · exact p1.elim⟩
end
/-! ### all ways of a program -/
/-- from data to ways, all new -/
def spW0 (K : PySem.W.Frag) (ec : Nat → Addr) (n : Nat) (g : List PyData → R (List WayD)) : Sp := fun vs H Q E => vs.length = n ∧ ∃ (G : Hp) (ds : List PyData), Tbs G ∧ Same G H ∧ RepA K G vs ds ∧ PostW K ec G H [] Q E (g ds)
def way0 (f : List WayD → PyData → R (List WayD)) (one p : PyData) : PyData → R (List WayD)
  | .dict ns => gd ns (f [⟨ns, [], 0, one⟩] p)
  | _ => .no
def gWays (f : List WayD → PyData → R (List WayD)) (fe : EF) (one : PyData) : List PyData → R (List WayD)
  | [p, h, b] => (fe [some p, some h, some b, none, none, none]).b0 (way0 f one p)
  | _ => .no
section
variable {P : Program} {w : World} {K : PySem.W.Frag} {mg : Str → Option Value} {base : Heap}
theorem fn_ways {ec : Nat → Addr} {qual x : Str} {st : Stmt} {f C : Addr} {fd : FuncData} {k : Nat} {nm ps : List Str} {g : List WayD → PyData → R (List WayD)} {fe : EF} {one : PyData} {vone : V} (F : Fun K x qual st f fd) (S : FnScope nm ps (defScope st)) (hp : ps.length = 3) (hnm : nm.length = 6) (Wc : WayC K C) (hone : ∀ G, Rep K G vone one)
    (hbody : ∀ (cdv : Value) (A : Around) (outer : List Env) (s : Shared) (H : Hp) (E : XK), Room k (A.deeper (envOfC qual (defScope st) s.heap.objs.size f cdv)) → PSs (cxOf (L2N.CX P w) P w K mg base nm qual (defScope st) f cdv A outer s H E) (defBody st)
      (tSeq (tAsg (tDN K ec (fun cls d _ H => E cls d H) fe) (gName 3)) (tRet (tCallS (spW K ec g) (WE (fun cls d _ H => E cls d H)) (tCons (tLst (tCons (tMake C (spWi C) [] E (tCons (tVar 3) (tCons (tTup tNil) (tCons (tC (.int 0)) (tCons (tC vone) tNil))))) tNil)) (tCons (tVar 0) tNil)))))) :
    FnOk P w K mg base (L2N.CX P w) (k + 1) f fd ps (spW0 K ec 3 (gWays g fe one)) := by
  obtain ⟨oc, od, kV, doc, pm, an, cdv, ct, osl, rfl, lk, hcd⟩ := F.ex
  refine fn_of lk hcd S (fun vs H Q E h => by rw [h.1, hp]) fun A outer s H vs Q E hr h => ?_
  obtain ⟨hl, G, ds, tb, i, ra, po⟩ := h
  refine ⟨_, hbody cdv A outer s H E hr, ?_⟩
  obtain ⟨v0, v1, v2, rfl⟩ : ∃ v0 v1 v2, vs = [v0, v1, v2] := by
    match vs, hl with
    | [a, b, c], _ => exact ⟨a, b, c, rfl⟩
  cases ra with
  | cons r0 ra =>
  cases ra with
  | cons r1 ra =>
  cases ra with
  | cons r2 ra =>
  cases ra
  rename_i d0 d1 d2
  have hs : ∀ i v, [v0, v1, v2][i]? = some v → (start nm [v0, v1, v2])[i]? = some (some v) := fun i v h => by
    unfold L2.start
    have hi : i < 3 := by have := (List.getElem?_eq_some_iff.mp h).1; simpa using this
    rw [List.getElem?_append_left (by simpa using hi), List.getElem?_map, h]
    rfl
  have hlen : (start nm [v0, v1, v2]).length = 6 := by unfold L2.start; simp [hnm]
  generalize start nm [v0, v1, v2] = σ at *
  have E0 : EnvR K G σ [some d0, some d1, some d2, none, none, none] := ⟨tb, by rw [hlen]; simp, fun j e q => by
    match j, q with
    | 0, q => cases q; exact ⟨v0, hs 0 _ rfl, r0⟩
    | 1, q => cases q; exact ⟨v1, hs 1 _ rfl, r1⟩
    | 2, q => cases q; exact ⟨v2, hs 2 _ rfl, r2⟩
    | 3, q => cases q
    | 4, q => cases q
    | 5, q => cases q
    | j + 6, q => simp at q⟩
  refine ⟨G, _, i, E0, ?_⟩
  have po : PostW K ec G H [] Q E ((fe [some d0, some d1, some d2, none, none, none]).b0 (way0 g one d0)) := po
  cases qf : fe [some d0, some d1, some d2, none, none, none] with
  | no => rw [qf] at po; exact po.elim
  | ex c => rw [qf] at po; exact po.elim
  | ok dn =>
    cases dn with
    | dict ns =>
      rw [qf] at po
      have po : PostW K ec G H [] Q E (gd ns (g [⟨ns, [], 0, one⟩] d0)) := po
      intro l G1 H1 e1 nl gl ow
      rcases ow with ⟨kvs, hk, nd, rk⟩ | ⟨ks, es, rfl, _⟩
      rotate_left
      · exact po.elim
      rw [gd_un rk.unm] at po
      have t3 : (σ.set 3 (some (V.ref l)))[3]? = some (some (.ref l)) := by rw [List.getElem?_set_self (by omega)]
      have t0 : (σ.set 3 (some (V.ref l)))[0]? = some (some v0) := by rw [List.getElem?_set_ne (by decide)]; exact hs 0 _ rfl
      refine ⟨.ref l, t3, by simp, fun q nq => ?_⟩
      intro x dx nx ndx hne
      have e2 : Ext G1 H1 (upd G1 q (.tup [])) (upd H1 q (.tup [])) := Ext.new e1.i nq
      have h2l : upd H1 q (.tup []) l = some (.dK kvs) := e2.h.dK hk
      have g2l : upd G1 q (.tup []) l = none := e2.clean gl hk
      have rt : Rep K (upd G1 q (.tup [])) (.ref q) (.tuple []) := .tup (.inl (.inl upd_same)) .nil
      generalize upd H1 q (.tup []) = H2 at *
      generalize upd G1 q (.tup []) = G2 at *
      refine ⟨x, dx, .ref l, .ref q, .int 0, vone, rfl, upd_same, rfl, ?_⟩
      rw [upd_upd]
      have s1 : Same H2 (upd H2 dx (.own x)) := same_new ndx
      have nx1 : upd H2 dx (.own x) x = none := by rw [upd_ne (Ne.symm hne)]; exact nx
      have s2 : Same (upd H2 dx (.own x)) (upd (upd H2 dx (.own x)) x (.ins C dx (fdW l (.ref q) 0 vone))) := same_new nx1
      have e3 : Ext G2 H2 G2 (upd (upd H2 dx (.own x)) x (.ins C dx (fdW l (.ref q) 0 vone))) := Ext.heap e2.i (s1.trans s2)
      have hx : upd (upd H2 dx (.own x)) x (.ins C dx (fdW l (.ref q) 0 vone)) x = some (.ins C dx (fdW l (.ref q) 0 vone)) := upd_same
      have hdx : upd (upd H2 dx (.own x)) x (.ins C dx (fdW l (.ref q) 0 vone)) dx = some (.own x) := by rw [upd_ne hne, upd_same]
      have h3l := (s1.trans s2).dK h2l
      have gx : G2 x = none := e2.i.free nx
      generalize upd (upd H2 dx (.own x)) x (.ins C dx (fdW l (.ref q) 0 vone)) = H3 at *
      refine ⟨by simp [sizeLine_eq], fun q2 nq2 => ?_⟩
      have e4 : Ext G2 H3 G2 (upd H3 q2 (.lst [.ref x])) := Ext.heap e3.i (same_new nq2)
      have hq2 : upd H3 q2 (.lst [.ref x]) q2 = some (.lst [.ref x]) := upd_same
      have wa : WayA K G2 (upd H3 q2 (.lst [.ref x])) (x, l) ⟨ns, [], 0, one⟩ := ⟨C, dx, .ref q, vone, kvs, Wc.at', e4.h.ap _ _ hx (fun _ z => by cases z), e4.h.ap _ _ hdx (fun _ z => by cases z), e4.h.dK h3l, nd, rk.mono e2.g, rt, hone _, gx, g2l⟩
      have gq2 : G2 q2 = none := e3.i.free nq2
      have xq2 : q2 ≠ x := fun z => by rw [z, hx] at nq2; cases nq2
      have lq2 : q2 ≠ l := fun z => by rw [z, h3l] at nq2; cases nq2
      have xl : x ≠ l := fun z => by rw [z, h2l] at nx; cases nx
      generalize upd H3 q2 (.lst [.ref x]) = H4 at *
      have e14 := ((e1.trans e2).trans e3).trans e4
      refine ⟨v0, t0, rfl, q2, v0, G2, [(x, l)], [⟨ns, [], 0, one⟩], d0, rfl, tb.mono e14.g, e4.i, gq2, ?_, .cons wa .nil, hq2, r0.mono e14.g, ?_⟩
      · simp [xq2, lq2, xl]
      have W0 : WG K G H [] G2 H4 [q2] [(x, l)] [⟨ns, [], 0, one⟩] := by
        have n0 : ∀ a ∈ q2 :: fpW [(x, l)], H a = none := fun a ha => by
          have : a = q2 ∨ a = x ∨ a = l := by simpa using ha
          rcases this with rfl | rfl | rfl
          · exact ((e1.trans e2).trans e3).h.free nq2
          · exact (e1.trans e2).h.free nx
          · exact nl
        exact ⟨(Fr.start i).ext e14, .cons wa .nil, by simp [xq2, lq2, xl], fun a ha => .inr (n0 a ha), fun a ha => by rw [List.mem_singleton] at ha; subst ha; exact ⟨gq2, _, hq2, raw_lst _⟩⟩
      cases qg : g [⟨ns, [], 0, one⟩] d0 with
      | no => rw [qg] at po; exact po.elim
      | ex c =>
        rw [qg] at po
        exact fun H' s => po H' ((W0.outer (fp := q2 :: fpW [(x, l)]) fun a ha => ha).trans s)
      | ok ws' =>
        rw [qg] at po
        intro G' H' l' as' Cw hl'
        exact po G' H' l' as' (W0.call0 Cw) hl'
    | _ => rw [qf] at po; exact po.elim
end
end PL
/-! PL, part al: dicts whose keys are nested tuples of ints. -/
namespace PL
open PySem PySem.Spec PyProof.Rows L2
mutual
theorem nk_hash : ∀ (d : PyData) {k : NestedKey}, nkOf d = some k → ∀ w w' : World, k.hash w = k.hash w'
  | .int i, k, h, w, w' => by
    simp only [nkOf, Option.some.injEq] at h
    subst h
    simp only [NestedKey.hash]
  | .tuple ds, k, h, w, w' => by
    simp only [nkOf, Option.map_eq_some_iff] at h
    obtain ⟨ks, h1, rfl⟩ := h
    simp only [NestedKey.hash]
    rw [nk_hashes ds h1 w w']
  | .none, k, h, _, _ => by simp [nkOf] at h
  | .bool _, k, h, _, _ => by simp [nkOf] at h
  | .str _, k, h, _, _ => by simp [nkOf] at h
  | .list _, k, h, _, _ => by simp [nkOf] at h
  | .dict _, k, h, _, _ => by simp [nkOf] at h
theorem nk_hashes : ∀ (ds : List PyData) {ks : List NestedKey}, nkAll ds = some ks → ∀ w w' : World, NestedKey.hashes w ks = NestedKey.hashes w' ks
  | [], ks, h, w, w' => by simp only [nkAll, Option.some.injEq] at h; subst h; rfl
  | d :: ds, ks, h, w, w' => by
    simp only [nkAll] at h
    split at h
    · rename_i k ks' h1 h2
      cases h
      simp only [NestedKey.hashes]
      rw [nk_hash d h1 w w', nk_hashes ds h2 w w']
    · cases h
end
section
variable {X : Cx} {pins : List (Addr × Obj)} {σ : L2.St} {H : Hp} {s : Shared}
mutual
theorem nk_is (I : L2.Inv X pins σ H s) : ∀ (d : PyData) {k : NestedKey} {v : V} {u : Value}, nkOf d = some k → Rep X.K H v d → RelV v u → NestedIs s.heap k u
  | .int i, k, v, u, h, r, ru => by
    simp only [nkOf, Option.some.injEq] at h
    subst h
    cases r
    obtain ⟨t, rfl⟩ := ru
    exact .int i t
  | .tuple ds, k, v, u, h, r, ru => by
    simp only [nkOf, Option.map_eq_some_iff] at h
    obtain ⟨ks, h1, rfl⟩ := h
    cases r with
    | tup hq ra =>
      cases ru
      obtain ⟨its, rv, p, _⟩ := I.tuple hq
      obtain ⟨o, e1, e2, n, e3⟩ := p
      exact .tup e1 e2 e3 (nk_all I ds h1 ra rv)
  | .none, k, _, _, h, _, _ => by simp [nkOf] at h
  | .bool _, k, _, _, h, _, _ => by simp [nkOf] at h
  | .str _, k, _, _, h, _, _ => by simp [nkOf] at h
  | .list _, k, _, _, h, _, _ => by simp [nkOf] at h
  | .dict _, k, _, _, h, _, _ => by simp [nkOf] at h
theorem nk_all (I : L2.Inv X pins σ H s) : ∀ (ds : List PyData) {ks : List NestedKey} {vs : List V} {us : List Value}, nkAll ds = some ks → RepA X.K H vs ds → Vals vs us → NestedAll s.heap ks us
  | [], ks, vs, us, h, r, ru => by
    simp only [nkAll, Option.some.injEq] at h
    subst h
    cases r
    cases ru
    exact .nil
  | d :: ds, ks, vs, us, h, r, ru => by
    simp only [nkAll] at h
    split at h
    · rename_i k ks' h1 h2
      cases h
      cases r with
      | cons r1 r2 =>
        cases ru with
        | cons u1 u2 => exact .cons (nk_is I d h1 r1 u1) (nk_all I ds h2 r2 u2)
    · cases h
end
end
/-! ### looking and putting -/
def nLook (ks : List NK) (k : NestedKey) : Option V := (ks.find? fun x => decide (x.1 = k)).map (·.2.2)
def nPut (ks : List NK) (k : NestedKey) (q : Addr) (v : V) : List NK := if (nLook ks k).isSome then ks.map fun x => if x.1 = k then (x.1, x.2.1, v) else x else ks ++ [(k, q, v)]
def nkLook (ds : List (PyData × PyData)) (k : NestedKey) : Option PyData := (ds.find? fun p => decide (nkOf p.1 = some k)).map (·.2)
def nkPut (ds : List (PyData × PyData)) (k : NestedKey) (dk d : PyData) : List (PyData × PyData) := if (nkLook ds k).isSome then ds.map fun p => if nkOf p.1 = some k then (p.1, d) else p else ds ++ [(dk, d)]
theorem NKV.val : ∀ {ks : List NK} {xs : List (NestedKey × Addr × Value)}, NKV ks xs → ∀ k, RelO (nLook ks k) ((atKey xs k).map (·.2))
  | _, _, .nil, k => by simp [nLook, atKey, RelO]
  | _, _, .cons (a := a) (b := b) h t, k => by
    obtain ⟨h1, h2, h3⟩ := h
    have ih := NKV.val t k
    unfold nLook atKey at ih ⊢
    rw [List.find?_cons, List.find?_cons, ← h1]
    by_cases e : a.1 = k
    · simp only [e, decide_true, Option.map_some]
      exact h3
    · simp only [e, decide_false]
      exact ih
theorem NKV.repl {v : V} {u : Value} (k : NestedKey) (r : RelV v u) : ∀ {ks : List NK} {xs : List (NestedKey × Addr × Value)}, NKV ks xs → NKV (ks.map fun x => if x.1 = k then (x.1, x.2.1, v) else x) (xs.map (putAt k u))
  | _, _, .nil => .nil
  | _, _, .cons (a := a) (b := b) h t => by
    obtain ⟨h1, h2, h3⟩ := h
    rw [List.map_cons, List.map_cons]
    refine .cons ?_ (NKV.repl k r t)
    unfold putAt
    by_cases e : a.1 = k
    · rw [if_pos e, if_pos (h1 ▸ e)]
      exact ⟨h1, h2, r⟩
    · rw [if_neg e, if_neg (h1 ▸ e)]
      exact ⟨h1, h2, h3⟩
theorem RelO.some_eq {o : Option V} {p : Option Value} (h : RelO o p) : o.isSome = p.isSome := h.isSome_eq
theorem NKV.put {ks : List NK} {xs : List (NestedKey × Addr × Value)} {v : V} {u : Value} (k : NestedKey) (q : Addr) (h : NKV ks xs) (r : RelV v u) : NKV (nPut ks k q v) (storedH xs k q u) := by
  have e := (h.val k).isSome_eq
  rw [Option.isSome_map] at e
  unfold nPut storedH
  rw [e]
  split
  · exact h.repl k r
  · exact Paired.snoc h ⟨rfl, rfl, r⟩
section
variable {K : PySem.W.Frag} {G : Hp}
theorem RepN.len : ∀ {ks : List NK} {ds : List (PyData × PyData)}, RepN K G ks ds → ks.length = ds.length
  | _, _, .nil => rfl
  | _, _, .cons _ _ _ _ t => by simp [RepN.len t]
theorem RepN.look : ∀ {ks : List NK} {ds : List (PyData × PyData)}, RepN K G ks ds → ∀ k, (nLook ks k = none ∧ nkLook ds k = none) ∨ ∃ v d, nLook ks k = some v ∧ nkLook ds k = some d ∧ Rep K G v d
  | _, _, .nil, k => .inl ⟨rfl, rfl⟩
  | _, _, .cons (k := k') (dk := dk) (d := d) h1 h2 h3 h4 t, k => by
    have ih := RepN.look t k
    unfold nLook nkLook at ih ⊢
    rw [List.find?_cons, List.find?_cons]
    by_cases e : k' = k
    · subst e
      simp only [h1, decide_true, Option.map_some]
      exact .inr ⟨_, _, rfl, rfl, h4⟩
    · have e2 : ¬ (nkOf dk = some k) := fun z => e (by rw [h1] at z; exact Option.some.inj z)
      simp only [e, e2, decide_false]
      exact ih
theorem RepN.repl {v : V} {d : PyData} (k : NestedKey) (r : Rep K G v d) : ∀ {ks : List NK} {ds : List (PyData × PyData)}, RepN K G ks ds → RepN K G (ks.map fun x => if x.1 = k then (x.1, x.2.1, v) else x) (ds.map fun p => if nkOf p.1 = some k then (p.1, d) else p)
  | _, _, .nil => .nil
  | _, _, .cons (k := k') (dk := dk) (d := d') h1 h2 h3 h4 t => by
    rw [List.map_cons, List.map_cons]
    by_cases e : k' = k
    · subst e
      rw [if_pos rfl, if_pos h1]
      exact .cons h1 h2 h3 r (RepN.repl _ r t)
    · have e2 : ¬ (nkOf dk = some k) := fun z => e (by rw [h1] at z; exact Option.some.inj z)
      rw [if_neg e, if_neg e2]
      exact .cons h1 h2 h3 h4 (RepN.repl _ r t)
theorem RepN.snoc {k : NestedKey} {q : Addr} {v : V} {dk d : PyData} (h1 : nkOf dk = some k) (h2 : k.depth ≤ 8) (h3 : Rep K G (.ref q) dk) (h4 : Rep K G v d) : ∀ {ks : List NK} {ds : List (PyData × PyData)}, RepN K G ks ds → RepN K G (ks ++ [(k, q, v)]) (ds ++ [(dk, d)])
  | _, _, .nil => .cons h1 h2 h3 h4 .nil
  | _, _, .cons a b c d t => .cons a b c d (RepN.snoc h1 h2 h3 h4 t)
theorem RepN.put {k : NestedKey} {q : Addr} {v : V} {dk d : PyData} {ks : List NK} {ds : List (PyData × PyData)} (h1 : nkOf dk = some k) (h2 : k.depth ≤ 8) (h3 : Rep K G (.ref q) dk) (h4 : Rep K G v d) (r : RepN K G ks ds) : RepN K G (nPut ks k q v) (nkPut ds k dk d) := by
  unfold nPut nkPut
  rcases r.look k with ⟨e1, e2⟩ | ⟨_, _, e1, e2, _⟩
  · rw [e1, e2]
    exact r.snoc h1 h2 h3 h4
  · rw [e1, e2]
    exact r.repl k h4
theorem RepN.hash : ∀ {ks : List NK} {ds : List (PyData × PyData)}, RepN K G ks ds → ∀ x ∈ ks, ∀ w w' : World, x.1.hash w = x.1.hash w'
  | _, _, .nil, x, h => by cases h
  | _, _, .cons h1 _ _ _ t, x, h => by
    rcases List.mem_cons.mp h with rfl | h
    · exact nk_hash _ h1
    · exact RepN.hash t x h
theorem NKV.hash : ∀ {ks : List NK} {xs : List (NestedKey × Addr × Value)}, NKV ks xs → (∀ x ∈ ks, ∀ w w' : World, x.1.hash w = x.1.hash w') → ∀ x ∈ xs, ∀ w w' : World, x.1.hash w = x.1.hash w'
  | _, _, .nil, _, x, h => by cases h
  | _, _, .cons a t, f, x, h => by
    rcases List.mem_cons.mp h with rfl | h
    · rw [← a.1]; exact f _ List.mem_cons_self
    · exact NKV.hash t (fun y hy => f y (List.mem_cons_of_mem _ hy)) x h
theorem NKV.len : ∀ {ks : List NK} {xs : List (NestedKey × Addr × Value)}, NKV ks xs → ks.length = xs.length
  | _, _, .nil => rfl
  | _, _, .cons _ t => by simp [NKV.len t]
end
section
variable {X : Cx} {pins : List (Addr × Obj)} {σ : L2.St} {H : Hp} {s : Shared} {a : Addr} {ks : List NK} {ds : List (PyData × PyData)}
theorem nk_keys (I : L2.Inv X pins σ H s) : ∀ {ks : List NK} {xs : List (NestedKey × Addr × Value)} {ds : List (PyData × PyData)}, NKV ks xs → RepN X.K H ks ds → ∀ x ∈ xs, (nestedKind X.prog X.w).is s.heap x.1 x.2.1
  | _, _, _, .nil, .nil, x, h => by cases h
  | _, _, _, .cons a t, .cons h1 h2 h3 h4 r, x, h => by
    rcases List.mem_cons.mp h with rfl | h
    · obtain ⟨b1, b2, _⟩ := a
      rw [← b1, ← b2]
      exact ⟨nk_is I _ h1 h3 rfl, h2⟩
    · exact nk_keys I t r x h
theorem dn_at (I : L2.Inv X pins σ H s) (e : H a = some (DnO a ks)) (r : RepN X.K H ks ds) : ks.length ≤ sizeLine ∧ (a == sysModules) = false ∧ ∃ xs, NKV ks xs ∧ s.heap.DictOfH (nestedKind X.prog X.w) a xs := by
  obtain ⟨⟨z, hd, xs, rel, o, es, ep, h1, h2, h3, h4, h5⟩, _, _⟩ := (show ObjOk X.prog X.w H s.heap a (.ext _) from I.hok a _ e)
  exact ⟨z, hd, xs, rel, o, es, ep, h1, h2, h3, h4 X.w, nk_keys I rel r, h5⟩
theorem dn_raw (I : L2.Inv X pins σ H s) (e : H a = some (DnO a ks)) : (a == sysModules) = false ∧ ∃ (xs : List (NestedKey × Addr × Value)) (es : Array DictEntry) (ep : Nat), NKV ks xs ∧ s.heap.DictRaw a es ep ∧ es.toList.map (·.key) = xs.map fun x => Value.ref x.2.1 := by
  obtain ⟨⟨z, hd, xs, rel, o, es, ep, h1, h2, h3, h4, h5⟩, _, _⟩ := (show ObjOk X.prog X.w H s.heap a (.ext _) from I.hok a _ e)
  refine ⟨hd, xs, es, ep, rel, ⟨o, h1, h2, h3⟩, ?_⟩
  rw [h4 X.w, List.map_map]
  rfl
theorem dn_type (I : L2.Inv X pins σ H s) (e : H a = some (DnO a ks)) : s.TypeIs (.ref a) "dict" ∧ ∀ b, Value.ref a = .ref b → ∃ ob, s.heap.get? b = some ob ∧ ob.dict = none := by
  obtain ⟨⟨z, hd, xs, rel, o, es, ep, h1, h2, h3, h4, h5⟩, _, _⟩ := (show ObjOk X.prog X.w H s.heap a (.ext _) from I.hok a _ e)
  exact ⟨⟨o, h1, h2.1⟩, fun b q => by cases q; exact ⟨o, h1, h2.2.1⟩⟩
theorem dn_stable {h : Heap} {xs : List (NestedKey × Addr × Value)} {P : Program} {w : World} {H' : Hp} (z : ks.length ≤ sizeLine) (hd : (a == sysModules) = false) (rel : NKV ks xs) (hh : ∀ x ∈ ks, ∀ w w' : World, x.1.hash w = x.1.hash w') (D : h.DictOfH (nestedKind P w) a xs) : ObjOk P w H' h a (DnO a ks) := by
  obtain ⟨o, es, ep, h1, h2, h3, h4, _, h5⟩ := D
  refine ⟨⟨z, hd, xs, rel, o, es, ep, h1, h2, h3, fun w' => ?_, h5⟩, ⟨o, h1⟩, fun g1 g2 x st => ?_⟩
  · rw [h4]
    refine List.map_congr_left fun x hx => ?_
    show (⟨x.1.hash w, .ref x.2.1, x.2.2⟩ : DictEntry) = _
    rw [rel.hash hh x hx w w']
  · obtain ⟨z, hd, xs, rel, o, es, ep, h1, h2, h3, h4, h5⟩ := x
    exact ⟨z, hd, xs, rel, o, es, ep, st o h1, h2, h3, h4, h5⟩
end
/-! ### readings -/
/-- the value y is the key k -/
def NkV (K : PySem.W.Frag) (H : Hp) (y : V) (k : NestedKey) : Prop := ∃ (q : Addr) (dk : PyData), y = .ref q ∧ Rep K H (.ref q) dk ∧ nkOf dk = some k ∧ k.depth ≤ 8
def tNGet2 (K : PySem.W.Frag) (td ty tx : TE) : TE := fun σ H Q => td σ H fun x H1 => ∃ a ks0, x = .ref a ∧ H1 a = some (DnO a ks0) ∧ ty σ H1 fun y H2 => tx σ H2 fun z H3 => ∃ ks ds k, H3 a = some (DnO a ks) ∧ RepN K H3 ks ds ∧ NkV K H3 y k ∧ Q ((nLook ks k).getD z) H3
def tNGet (K : PySem.W.Frag) (td ty : TE) : TE := fun σ H Q => td σ H fun x H1 => ty σ H1 fun y H2 => ∃ a ks ds k v, x = .ref a ∧ H2 a = some (DnO a ks) ∧ RepN K H2 ks ds ∧ NkV K H2 y k ∧ nLook ks k = some v ∧ Q v H2
def sNPut (K : PySem.W.Frag) (td ty tv : TE) : TS := fun D σ H => tv σ H fun v H1 => td σ H1 fun x H2 => ty σ H2 fun y H3 => ∃ a ks ds q dk k, x = .ref a ∧ H3 a = some (DnO a ks) ∧ RepN K H3 ks ds ∧ y = .ref q ∧ Rep K H3 (.ref q) dk ∧ nkOf dk = some k ∧ k.depth ≤ 8 ∧ ks.length < sizeLine ∧ D.nx σ (upd H3 a (DnO a (nPut ks k q v)))
def tNNew : TE := fun _ H Q => ∀ p, H p = none → Q (.ref p) (upd H p (DnO p []))
theorem nPut_len (ks : List NK) (k : NestedKey) (q : Addr) (v : V) : (nPut ks k q v).length ≤ ks.length + 1 := by
  unfold nPut
  split
  · simp
  · simp
theorem nPut_hash {ks : List NK} {k : NestedKey} {q : Addr} {v : V} (h : ∀ x ∈ ks, ∀ w w' : World, x.1.hash w = x.1.hash w') (hk : ∀ w w' : World, k.hash w = k.hash w') : ∀ x ∈ nPut ks k q v, ∀ w w' : World, x.1.hash w = x.1.hash w' := by
  intro x hx
  unfold nPut at hx
  split at hx
  · obtain ⟨y, hy, rfl⟩ := List.mem_map.mp hx
    split
    · exact h y hy
    · exact h y hy
  · rcases List.mem_append.mp hx with hx | hx
    · exact h x hx
    · rw [List.mem_singleton] at hx
      subst hx
      exact hk
section
variable {X : Cx} {o i e f value : Expr} {pos pos' apos cpos : Pos} {td ty tx tv : TE}
theorem pe_nnew : PE X (.Dict [] [] pos) tNNew := ⟨fun pins s σ H Q I h => by
  have hm : (s.heap.objs.size == sysModules) = false := beq_eq_false_iff_ne.mpr (Nat.ne_of_gt I.big)
  exact wpAny_Dict_empty ⟨.ref s.heap.objs.size, _, I.laid (a := s.heap.objs.size) (o := DnO s.heap.objs.size []) (t' := s.toks) (fun _ _ q => Heap.get?_push_of_some _ q) (Nat.le_refl _) (dn_stable (Nat.zero_le _) hm .nil (fun x hx => by cases hx) ((Heap.DictOfH.new s.heap))), rfl, h _ (I.hok.fresh (Nat.le_refl _))⟩⟩
theorem pe_nget2 (hu : X.A.units + 65 < cLine) (ho : PE X o td) (he : PE X e ty) (hf : PE X f tx) (m : M2 X o "get" apos e f cpos) : PE X (.Call (.Attribute o "get" apos) [e, f] [] cpos) (tNGet2 X.K td ty tx) := by
  refine ⟨fun pins s σ H Q I h => ?_⟩
  refine wpAny_Call_method m.base m.few m.line PySem.F.plainAttrs_dict PySem.F.slot_dict_get PySem.F.type_dict_get (thn (ho.run pins s σ H _ I h) fun u s1 ⟨x, H1, I1, rx, a, ks0, ex, d, q1⟩ => ?_)
  subst ex
  obtain rfl : u = Value.ref a := rx
  obtain ⟨t1, t2⟩ := dn_type I1 d
  refine ⟨t1, t2, ?_⟩
  rw [m.trees]
  refine Calls.callWith_builtin rfl (Calls.evalArgs_plain (Calls.spliced_cons (thn (he.run pins s1 σ H1 _ I1 q1) fun iv s2 ⟨y, H2, I2, ry, q2⟩ =>
    Calls.spliced_cons (thn (hf.run pins s2 σ H2 _ I2 q2) fun fv s3 ⟨z, H3, I3, rz, ks, ds, k, hd, rn, ⟨q, dk, ey, rq, hk, hdp⟩, q3⟩ => Calls.spliced_nil ?_))))
  subst ey
  cases (show iv = Value.ref q from ry)
  obtain ⟨_, hsm, xs, rel, dd⟩ := dn_at I3 hd rn
  refine getOr_keyed (knd := nestedKind X.prog X.w) (kvs := pairsH xs) (show X.A.units + 1 + 8 < cLine by omega) ⟨nk_is I3 _ hk rq rfl, hdp⟩ hsm ⟨xs, dd, rfl⟩ ?_
  rw [valueAt_pairsH]
  exact ⟨_, H3, I3.tok _, (rel.val k).getD rz, q3⟩
theorem pe_nget (hu : X.A.units + 65 < cLine) (ho : PE X o td) (hi : PE X i ty) (hs : NoSl i) : PE X (.Subscript o i pos) (tNGet X.K td ty) := by
  refine ⟨fun pins s σ H Q I h => ?_⟩
  refine subD_of PySem.F.slot_dict_getitem.lookup hs (thn (ho.run pins s σ H _ I h) fun u s1 ⟨x, H1, I1, rx, q1⟩ => thn (hi.run pins s1 σ H1 _ I1 q1) fun iv s2 ⟨y, H2, I2, ry, a, ks, ds, k, v, ex, hd, rn, ⟨q, dk, ey, rq, hk, hdp⟩, hl, q2⟩ => ?_)
  subst ex ey
  obtain rfl : u = Value.ref a := rx
  cases (show iv = Value.ref q from ry)
  obtain ⟨_, hsm, xs, rel, dd⟩ := dn_at I2 hd rn
  obtain ⟨w', hw, rw'⟩ := RelO.some_of (v := v) (o := (atKey xs k).map (·.2)) (by rw [← hl]; exact rel.val k)
  refine ⟨(dn_type I2 hd).1, getItem_keyed (knd := nestedKind X.prog X.w) (kvs := pairsH xs) (v := w') (show X.A.units + 1 + 8 < cLine by omega) ⟨nk_is I2 _ hk rq rfl, hdp⟩ ⟨xs, dd, rfl⟩ (by rw [valueAt_pairsH]; exact hw) ?_⟩
  exact ⟨v, H2, I2.tok _, rw', q2⟩
theorem ps_nput (hu : X.A.units + 65 < cLine) (ho : PE X o td) (hi : PE X i ty) (hv : PE X value tv) (hs : swapsWith value (some (.Subscript o i pos')) pos.line X.env = pure false) :
    PS X (.Assign [.Subscript o i pos'] value pos) (sNPut X.K td ty tv) := by
  refine ⟨fun pins s σ H D I h => ?_⟩
  refine wpAny_Assign_Subscript (thn (hv.run pins s σ H _ I h) fun r s1 ⟨v, H1, I1, rv, q1⟩ => thn (ho.run pins s1 σ H1 _ I1 q1) fun u s2 ⟨x, H2, I2, rx, q2⟩ => thn (hi.run pins s2 σ H2 _ I2 q2) fun iv s3 ⟨y, H3, I3, ry, a, ks, ds, q, dk, k, ex, hd, rn, ey, rq, hk, hdp, hz, q3⟩ => ?_) hs
  subst ex ey
  obtain rfl : u = Value.ref a := rx
  cases (show iv = Value.ref q from ry)
  obtain ⟨z, hsm, xs, rel, dd⟩ := dn_at I3 hd rn
  have hl : (nPut ks k q v).length ≤ sizeLine := by have := nPut_len ks k q v; omega
  refine wpAny_setItem_heap (knd := nestedKind X.prog X.w) (hsz := by rw [← rel.len]; exact z) (show X.A.units + 1 + 8 < cLine by omega) ⟨nk_is I3 _ hk rq rfl, hdp⟩ dd fun h' dd' hs => ?_
  have he : ∃ q, h'.get? a = some q := let ⟨q, _, _, hq, _⟩ := dd'; ⟨q, hq⟩
  exact ⟨σ, _, d_write I3 (by rw [hd]; exact True.intro) hs he (dn_stable hl hsm (rel.put k q rv) (nPut_hash rn.hash (nk_hash _ hk)) dd'), q3⟩
end
end PL
/-! PL, part am: dicts with nested keys over data; sorted of such a dict. -/
namespace PL
open PySem PySem.Spec PyProof.Rows L2
/-- the entries of a dict with nested keys -/
def ndOf : PyData → Option (List (PyData × PyData))
  | .dict ((.none, .none) :: ds) => some ds
  | _ => none
theorem ndOf_eq {d : PyData} {ds : List (PyData × PyData)} (h : ndOf d = some ds) : d = .dict ((.none, .none) :: ds) := by
  unfold ndOf at h
  split at h
  · cases h; rfl
  · cases h
/-- a key, not too deep -/
def nkD (d : PyData) : Option NestedKey := match nkOf d with
  | some k => if k.depth ≤ 8 then some k else none
  | none => none
theorem nkD_of {d : PyData} {k : NestedKey} (h : nkD d = some k) : nkOf d = some k ∧ k.depth ≤ 8 := by
  unfold nkD at h
  split at h
  · rename_i k' h1
    split at h
    · cases h; exact ⟨h1, by assumption⟩
    · cases h
  · cases h
theorem rep_ref {K : PySem.W.Frag} {G : Hp} {v : V} {d : PyData} {k : NestedKey} (r : Rep K G v d) (h : nkOf d = some k) : (∃ i, d = .int i) ∨ ∃ q, v = .ref q := by
  cases r with
  | int i => exact .inl ⟨i, rfl⟩
  | tup _ _ => exact .inr ⟨_, rfl⟩
  | _ => simp [nkOf] at h
/-- a key that is a tuple -/
def nkT : PyData → Option NestedKey
  | .tuple ds => nkD (.tuple ds)
  | _ => none
theorem nkT_of {d : PyData} {k : NestedKey} (h : nkT d = some k) : nkOf d = some k ∧ k.depth ≤ 8 ∧ ∃ ds, d = .tuple ds := by
  unfold nkT at h
  split at h
  · exact ⟨(nkD_of h).1, (nkD_of h).2, _, rfl⟩
  · cases h
theorem nkT_v {K : PySem.W.Frag} {G H : Hp} {v : V} {d : PyData} {k : NestedKey} (s : Same G H) (r : Rep K G v d) (h : nkT d = some k) : NkV K H v k := by
  obtain ⟨h1, h2, ds, rfl⟩ := nkT_of h
  cases r with
  | tup a b => exact ⟨_, _, rfl, (Rep.tup a b).mono s, h1, h2⟩
theorem dn_same {G H : Hp} (s : Same G H) {a : Addr} {ks : List NK} (h : G a = some (DnO a ks)) : H a = some (DnO a ks) := s.ap _ _ h fun _ z => by unfold DnO at z; cases z
theorem nd_of {K : PySem.W.Frag} {G : Hp} {v : V} {d : PyData} {ds : List (PyData × PyData)} (r : Rep K G v d) (h : ndOf d = some ds) : ∃ a ks, v = .ref a ∧ G a = some (DnO a ks) ∧ RepN K G ks ds := by
  have := ndOf_eq h
  subst this
  cases r with
  | @dcn a ks ds h1 r1 => exact ⟨a, ks, rfl, h1, r1⟩
  | @dct a kvs ds h1 n1 r1 => have := r1.unm; cases this
def dNGet2 (d k x : PyData) : R PyData := match ndOf d, nkT k with
  | some ds, some kk => .ok ((nkLook ds kk).getD x)
  | _, _ => .no
def dNIx (d k : PyData) : R PyData := match ndOf d, nkT k with
  | some ds, some kk => match nkLook ds kk with
    | some v => .ok v
    | none => .no
  | _, _ => .no
def eNGet2 (fd fk fx : EF) (env : List (Option PyData)) : R PyData := (fd env).bind fun d => match ndOf d with
  | some _ => (fk env).bind fun k => (fx env).bind fun x => dNGet2 d k x
  | none => .no
section
variable {X : Cx} {ec : Nat → Addr} {W : WX} {e e2 o : Expr} {fd fk fx : EF} {p pos apos cpos : Pos}
theorem sn_nnew : PE X (.Dict [] [] pos) (tDN X.K ec W (eC (.dict [(.none, .none)]))) :=
  PE_imp pe_nnew fun σ H Q ⟨G, env, s, E, p⟩ => fun l nl => p l G _ (Ext.heap s (same_new nl)) nl (s.free nl) (.inr ⟨[], [], rfl, upd_same, .nil⟩)
theorem se_nget2 (hu : X.A.units + 65 < cLine) (ho : PE X o (tD X.K ec W fd)) (he : PE X e (tD X.K ec W fk)) (hf : PE X e2 (tD X.K ec W fx)) (m : M2 X o "get" apos e e2 cpos := by exact ⟨rfl, rfl, rfl, rfl⟩) :
    PE X (.Call (.Attribute o "get" apos) [e, e2] [] cpos) (tD X.K ec W (eNGet2 fd fk fx)) :=
  PE_imp (pe_nget2 hu ho he hf m) fun σ H Q ⟨G, env, s, E, p⟩ => ⟨G, env, s, E, Post.bind p fun v d G1 H1 _ e1 r1 p1 => by
    cases hn : ndOf d with
    | none => rw [hn] at p1; exact p1.elim
    | some ds =>
      rw [hn] at p1
      obtain ⟨a, ks, rfl, ha, rn⟩ := nd_of r1 hn
      refine ⟨a, ks, rfl, dn_same e1.i ha, ⟨G1, env, e1.i, E.mono e1.g, Post.bind p1 fun vk dk G2 H2 _ e2 r2 p2 => ⟨G2, env, e2.i, E.mono (e1.g.trans e2.g), Post.bind p2 fun vx dx G3 H3 _ e3 r3 p3 => ?_⟩⟩⟩
      unfold dNGet2 at p3
      rw [hn] at p3
      cases hk : nkT dk with
      | none => rw [hk] at p3; exact p3.elim
      | some kk =>
        rw [hk] at p3
        dsimp only at p3
        have rn3 := rn.mono (e2.g.trans e3.g)
        refine ⟨ks, ds, kk, dn_same e3.i (dn_same (e2.g.trans e3.g) ha), rn3.mono e3.i, nkT_v e3.i (r2.mono e3.g) hk, ?_⟩
        rcases rn3.look kk with ⟨h1, h2⟩ | ⟨v', d', h1, h2, h3⟩
        · rw [h1]; rw [h2] at p3; exact p3 _ G3 H3 (Ext.refl e3.i) r3
        · rw [h1]; rw [h2] at p3; exact p3 _ G3 H3 (Ext.refl e3.i) h3⟩
theorem se_nat (hu : X.A.units + 65 < cLine) (ho : PE X o (tD X.K ec W fd)) (he : PE X e (tD X.K ec W fk)) (hs : NoSl e := by exact fun _ _ => rfl) : PE X (.Subscript o e pos) (tD X.K ec W (eBin dNIx fd fk)) :=
  PE_imp (pe_nget hu ho he hs) fun σ H Q ⟨G, env, s, E, p⟩ => ⟨G, env, s, E, Post.bind p fun v d G1 H1 _ e1 r1 p1 => ⟨G1, env, e1.i, E.mono e1.g, Post.bind p1 fun vk dk G2 H2 _ e2 r2 p2 => by
    unfold dNIx at p2
    cases hn : ndOf d with
    | none => rw [hn] at p2; exact p2.elim
    | some ds =>
      cases hk : nkT dk with
      | none => rw [hn, hk] at p2; exact p2.elim
      | some kk =>
        rw [hn, hk] at p2
        dsimp only at p2
        obtain ⟨a, ks, rfl, ha, rn⟩ := nd_of r1 hn
        rcases (rn.mono e2.g).look kk with ⟨h1, h2⟩ | ⟨v', d', h1, h2, h3⟩
        · rw [h2] at p2; exact p2.elim
        · rw [h2] at p2
          exact ⟨a, ks, ds, kk, v', rfl, dn_same e2.i (dn_same e2.g ha), (rn.mono e2.g).mono e2.i, nkT_v e2.i r2 hk, h1, p2 _ G2 H2 (Ext.refl e2.i) h3⟩⟩⟩
/-- d[k] = v of an owned dict with nested keys -/
noncomputable def sNSet (mv mk : Md) (i : Nat) (fv fk : EF) (env : Ev) : Out := match env[i]? with
  | some (.ow d) => match ndOf d with
    | some ds => (evM mv fv env).out fun v => (evM mk fk env).out fun k => match nkT k with
      | some kk => if ds.length < szl then .nx (env.set i (.ow (.dict ((.none, .none) :: nkPut ds kk k v)))) else .no
      | none => .no
    | none => .no
  | _ => .no
theorem own_nd {K : PySem.W.Frag} {G H : Hp} {l : Addr} {d : PyData} {ds : List (PyData × PyData)} (h : ndOf d = some ds) (o : Own K G H l d) : ∃ ks, H l = some (DnO l ks) ∧ RepN K G ks ds := by
  have := ndOf_eq h
  subst this
  rcases o with ⟨kvs, _, _, r⟩ | ⟨ks, es, e, h1, h2⟩
  · have := r.unm; cases this
  · cases e; exact ⟨ks, h1, h2⟩
theorem ss_nset (mv mk : Md) {i : Nat} {x : Str} {v : Expr} {fe : EF} {pos' : Pos} {G0 H0 : Hp} (hu : X.A.units + 65 < cLine) (he : PE X e (tD X.K ec W fe)) (hk : PE X v (tD X.K ec W fk)) (hi : X.N[i]? = some x := by rfl) (hv : Vis X.env.scope x := by first | exact Or.inl rfl | exact Or.inr (Or.inl rfl) | exact Or.inr (Or.inr rfl)) (hd : (x == ("__debug__" : Str)) = false := by decide) (hcd : (x == ("__classdict__" : Str)) = false := by decide)
    (hs : swapsWith e (some (.Subscript (.Name x p) v pos')) pos.line X.env = pure false := by rfl) :
    PS X (.Assign [.Subscript (.Name x p) v pos'] e pos) (tDS X.K ec W G0 H0 (sNSet mv mk i fe fk)) := by
  refine PS_imp (ps_nput hu (pe_var hi hv hd hcd) hk he hs) fun D σ H ⟨G, env, S, p⟩ => ?_
  unfold sNSet at p
  split at p
  · rename_i d q
    cases hn : ndOf d with
    | none => rw [hn] at p; exact p.elim
    | some ds =>
      rw [hn] at p
      dsimp only at p
      refine tD_M (m := mv) S (PostE.out p fun v d1 G1 H1 _ g1 S1 r1 p1 => ?_)
      obtain ⟨l, a1, a2, a3, _⟩ := S1.ow i _ q
      refine ⟨_, a1, tD_M (m := mk) S1 (PostE.out p1 fun kv kd G2 H2 _ g2 S2 r2 p2 => ?_)⟩
      obtain ⟨l', b1, b2, b3, bo⟩ := S2.ow i _ q
      rw [a1] at b1
      cases b1
      cases hkk : nkT kd with
      | none => rw [hkk] at p2; exact p2.elim
      | some kk =>
        rw [hkk] at p2
        dsimp only at p2
        split at p2
        · rename_i hz
          obtain ⟨ks, b4, b5⟩ := own_nd hn bo
          obtain ⟨h1, h2, es, rfl⟩ := nkT_of hkk
          have i2 := S2.x.i
          cases r2 with
          | @tup q2 xs es ht ra =>
            refine ⟨l, ks, ds, q2, _, kk, rfl, b4, b5.mono i2, rfl, (Rep.tup ht ra).mono i2, h1, h2, Nat.lt_of_lt_of_le (by rw [b5.len]; exact hz) (szl_line (Nat.le_refl _)), ?_⟩
            exact p2 σ G2 _ (Same.refl _) (S2.mut q a1 (.inr ⟨_, _, rfl, upd_same, b5.put h1 h2 (.tup ht ra) (r1.mono g2)⟩))
        · exact p2.elim
  · exact p.elim
end
/-! ### sorted of such a dict -/
section
variable {prog : Program} {w : World} {d : Addr} {es : Array DictEntry} {ep : Nat}
theorem kdl_raw (lo : (d == sysModules) = false) : PySem.W.KdlSrc prog w "dict" d d es.size (fun i v => ∃ hi : i < es.size, v = es[i].key) (fun h => h.DictRaw d es ep) where
  type := fun _ hm => hm.typeIs
  there := fun _ hm => let ⟨_, ho, _⟩ := hm; ⟨Heap.lt_size ho, Heap.lt_size ho⟩
  keep := fun _ _ hm hk => hm.at fun o e => hk d (.inl rfl) o e
  notList := by decide
  notTuple := by decide
  hint := fun _ _ _ _ hm hq => PySem.W.kdl_hint_dict hm.typeIs hq
  iter := fun _ _ hh hm => ⟨_, _, (fun _ _ hq => wpAny_pyIter_dict_raw lo hm hq), Walks.rawKeys hh _ d (let ⟨_, ho, _⟩ := hm; Nat.ne_of_lt (Heap.lt_size ho)) es ep, ⟨⟨_, Heap.get?_push_size _ rfl, rfl, rfl⟩, hm.at fun _ e => Heap.get?_push_of_some _ e⟩⟩
end
abbrev kRefs (ks : List NK) : List V := ks.map fun x => V.ref x.2.1
def rSortedN (K : PySem.W.Frag) : List V → Hp → VK → Prop := fun vs H Q => ∃ (a : Addr) (ks : List NK) (ds : List PyData), vs = [V.ref a] ∧ H a = some (DnO a ks) ∧ DpAll K H (kRefs ks) ds ∧ okSort ds = true ∧ ds.length ≤ sizeLine ∧
  ∀ p : Addr, H p = none → Q (.ref p) (upd H p (.lst ((srtB (kRefs ks) ds).map (·.1))))
theorem keys_vals : ∀ {ks : List NK} {xs : List (NestedKey × Addr × Value)}, NKV ks xs → Vals (kRefs ks) (xs.map fun x => Value.ref x.2.1)
  | _, _, .nil => .nil
  | _, _, .cons (a := a) (b := b) h t => by
    refine .cons ?_ (keys_vals t)
    show Value.ref b.2.1 = Value.ref a.2.1
    rw [h.2.1]
section
variable {X : Cx}
theorem cr_sortedN (hc : X.calm = true) (hu : X.A.units + 70 < cLine) : CallR X (.builtin "sorted") (rSortedN X.K) := by
  intro pins s σ H vs us Q I r h
  obtain ⟨a, ks, ds, rfl, ha, hd, ho, hz, q⟩ := h
  rw [Vals.ref1 r]
  obtain ⟨lo, xs, es, ep, rel, hat, hkeys⟩ := dn_raw I ha
  have hlen := dp_len hd
  have rv := keys_vals rel
  have hesl : es.size = ds.length := by
    have e := congrArg List.length hkeys
    rw [List.length_map, List.length_map, Array.length_toList, ← rel.len] at e
    rw [e, ← hlen, List.length_map]
  refine Calls.call_function_entry PyProof.Rows.kind_sorted PyProof.Rows.plain_sorted PyProof.Rows.entry_sorted (PyProof.Rows.args_sorted1 _) ?_
  unfold Builtin.«sorted»
  refine wpAny_bind (m := checkCount "sorted" 1 1 _) (wpAny_pure ?_)
  refine wpAny_bind (PySem.W.kdu_collect (A := X.A.in1) (kdl_raw (es := es) (ep := ep) lo) (I.ok.hd hc) hat (by rw [hesl]; exact hz) fun h' tk acc hk hacc => ?_)
  have hacc2 : acc.toList = xs.map fun x => Value.ref x.2.1 := by
    rw [← hkeys]
    apply List.ext_getElem?
    intro j
    by_cases hj : j < es.size
    · have hj2 : j < acc.size := by rw [hacc.1]; exact hj
      have e1 : acc.toList[j]? = some acc[j] := by rw [Array.getElem?_toList]; simp [hj2]
      obtain ⟨hi, e2⟩ := hacc.2 j acc[j] (by simp [hj2])
      rw [e1, e2, List.getElem?_map, Array.getElem?_toList]
      simp [hj]
    · rw [List.getElem?_eq_none (by rw [Array.length_toList, hacc.1]; omega), List.getElem?_eq_none (by rw [List.length_map, Array.length_toList]; omega)]
  rw [hacc2]
  generalize hits : (xs.map fun x => Value.ref x.2.1) = its at *
  have I1 : Inv X pins σ H { s with heap := h', toks := tk } := I.kept hk
  have hb : ((kRefs ks).zip ds).length = ds.length := by rw [List.length_zip, hlen, Nat.min_self]
  have hil : its.length ≤ sizeLine := by rw [← rv.length, hlen]; exact hz
  refine wpAny_bind (wpAny_newList ?_ hil)
  have hoL : (h'.push (seqObj "list" its.toArray 0)).get? h'.objs.size = some (seqObj "list" its.toArray 0) := Heap.get?_push_size _ rfl
  show wpAny _ _ _ _ _ { s with heap := h'.push (seqObj "list" its.toArray 0), toks := tk }
  have kp : ∀ b o, h'.get? b = some o → (PySem.W.sortingHeap (h'.push (seqObj "list" its.toArray 0)) h'.objs.size its).get? b = some o := fun b o e =>
    PySem.W.sortingHeap_old (Nat.ne_of_lt (Heap.lt_size e)) (Heap.get?_push_of_some _ e)
  have er : PySem.W.EachIs (fun (u : Value) (b : V × PyData) => ∃ as, Reads (PySem.W.sortingHeap (h'.push (seqObj "list" its.toArray 0)) h'.objs.size its) u b.2 as) its ((kRefs ks).zip ds) :=
    (each_reads I1 hd rv).mono fun _ _ ⟨as, r⟩ => ⟨as, PyProof.Rows.Reads.keeps kp r⟩
  have hal : PySem.W.AllAlike (((kRefs ks).zip ds).map (·.2)) := by rw [zip_snd hlen]; exact okSort_alike ho
  have hsk : PySem.W.Sortable (((kRefs ks).zip ds).map (·.2)) := by rw [zip_snd hlen]; exact okSort_sortable ho
  have hdu : ∀ b, b ∈ (kRefs ks).zip ds → X.A.units + 2 + b.2.depth < cLine := fun b hbm => by
    have hm : b.2 ∈ ds := by rw [← zip_snd hlen]; exact List.mem_map_of_mem hbm
    have s1 := okSort_shaped ho _ hm
    have hd : b.2.depth ≤ 64 := by
      unfold SeqAt.shaped at s1
      rw [Bool.and_eq_true, decide_eq_true_eq] at s1
      exact s1.2
    omega
  refine wpAny_bind (wpAny_holding (wpAny_call_entry PyProof.Rows.slot_list_sort ⟨_, hoL, rfl⟩ PyProof.Rows.entry_list_sort
    (PySem.W.list_sort_vals (s := { s with heap := h'.push (seqObj "list" its.toArray 0), toks := tk }) hoL (PySem.W.SortsAt.data (A := X.A.in1.in1) (s := { s with heap := PySem.W.sortingHeap (h'.push (seqObj "list" its.toArray 0)) h'.objs.size its, toks := tk }) (PySem.W.each_map (R := fun v d => ∃ as, Reads (PySem.W.sortingHeap (h'.push (seqObj "list" its.toArray 0)) h'.objs.size its) v d as) (fun b : V × PyData => b.2) er) hal hsk (PySem.W.bound_map hdu)) hil ⟨_, rfl, ?_⟩)
    (PyProof.Rows.args_list_sort _)))
  have oe := PySem.W.sortVals_data false (each_vals rv hlen) er hal
  obtain ⟨e', he'⟩ := PyProof.Rows.sortedHeap_at (vs := its) (out := (PySem.W.sortVals (PySem.W.dataKind (PySem.W.sortingHeap (h'.push (seqObj "list" its.toArray 0)) h'.objs.size its) (((kRefs ks).zip ds).map (·.2))) false its its).toArray) hoL
  have hle : ((srtB (kRefs ks) ds).map (·.1)).length ≤ sizeLine := by rw [List.length_map, List.length_mergeSort, hb]; exact hz
  refine wpAny_pure ⟨_, rfl, .ref h'.objs.size, upd H h'.objs.size (.lst ((srtB (kRefs ks) ds).map (·.1))), I1.laid (t' := tk) (fun b u e => ?_) (Nat.le_refl _)
    (show ObjOk X.prog X.w _ _ _ (.lst ((srtB (kRefs ks) ds).map (·.1))) from ⟨hle, _, e', vals_each oe, he'⟩), rfl, q _ (I1.hok.fresh (Nat.le_refl _))⟩
  have hb : b < h'.objs.size := Heap.lt_size e
  rw [PyProof.Rows.sortedHeap_old (Nat.ne_of_lt hb) (by rw [size_push']; exact Nat.lt_succ_of_lt hb)]
  exact Heap.get?_push_of_some _ e
end
noncomputable def gSortN : List PyData → R PyData
  | [d] => match ndOf d with
    | some ds => if okSort (ds.map (·.1)) = true ∧ ds.length ≤ szl then .ok (.list (dSort (ds.map (·.1)))) else .no
    | none => .no
  | _ => .no
theorem xl_sortN : NoExL gSortN := by
  intro x c h
  unfold gSortN at h
  split at h
  · split at h
    · split at h <;> cases h
    · cases h
  · cases h
theorem RepN.keys {K : PySem.W.Frag} {G : Hp} : ∀ {ks : List NK} {ds : List (PyData × PyData)}, RepN K G ks ds → RepA K G (kRefs ks) (ds.map (·.1))
  | _, _, .nil => .nil
  | _, _, .cons _ _ h _ t => .cons h (RepN.keys t)
theorem cd_sortN {K : PySem.W.Frag} : CallD K (rSortedN K) gSortN := by
  intro vs ds d G H Q i r h q
  unfold gSortN at h
  split at h
  · rename_i d0
    cases hn : ndOf d0 with
    | none => rw [hn] at h; cases h
    | some es =>
      rw [hn] at h
      dsimp only at h
      split at h
      · rename_i hs
        cases h
        cases r with
        | cons a b =>
          cases b
          obtain ⟨l, ks, rfl, hl, rn⟩ := nd_of a hn
          have rk := rn.keys
          exact ⟨l, ks, es.map (·.1), rfl, dn_same i hl, (RepA.mono i rk).dp (shaped_all (okSort_shaped hs.1)), hs.1, szl_line (by rw [List.length_map]; exact hs.2), fun p n => q _ _ _ (Ext.new i n) (ext_list i n (repA_sort rk))⟩
      · cases h
  · cases h
section
variable {X : Cx} {ec : Nat → Addr} {W : WX} {e : Expr} {fs : List EF} {p pos : Pos}
theorem se_sortN (hc : X.calm = true) (hu : X.A.units + 70 < cLine) (hg : Gl X "sorted") (hm : X.mg "sorted" = none) (ha : PA X [e] (tDA X.K ec W fs)) (he : starEach [e] X.env = (false, eval e X.env) :: starEach [] X.env := by rfl) : PE X (.Call (.Name "sorted" p) [e] [] pos) (tD X.K ec W (eCall gSortN fs)) := se_callB (cr_sortedN hc hu) cd_sortN xl_sortN hg hm (by decide +kernel) ha (he := he) (hpl := rfl)
end
end PL
/-! PL, part an: outcomes. -/
namespace PL
open PySem PySem.Spec PyProof.Rows L2
section
variable {K : PySem.W.Frag} {G0 H0 G H G' H' : Hp} {fp0 : List Addr} {xs : List Addr} {l' : Addr} {as' : List (Addr × Addr)} {ws' : List WayD}
theorem WG.call1 (W : WG K G0 H0 fp0 G H xs [] []) (C : WG K G H [] G' H' [l'] as' ws') : WG K G0 H0 fp0 G' H' (l' :: xs) as' ws' ∧ ∀ a ∈ xs, H' a = H a := by
  have old : ∀ a ∈ xs, G a = none ∧ ∃ u, H a = some u ∧ Raw u ∧ H' a = some u ∧ G' a = none := fun a ha => by
    obtain ⟨g, u, hu, ht⟩ := W.gx a ha
    refine ⟨g, u, hu, ht, C.fr.h.ap a u (by rw [delF_out (by simp)]; exact hu) ht.tame.1, ?_⟩
    cases q : G' a with
    | none => rfl
    | some o =>
      have := C.fr.f a (by rw [q]; simp) g
      rw [hu] at this
      cases this
  have sH : Same (delF H0 fp0) (delF H []) := W.outer (fp := []) (by simp)
  have fresh : ∀ a ∈ l' :: fpW as', a ∉ xs := fun a ha z => by
    rcases C.ow a ha with q | q
    · cases q
    · obtain ⟨_, u, hu, _⟩ := old a z
      rw [q] at hu
      cases hu
  have cn : (l' :: fpW as').Nodup := C.nd
  have wn : xs.Nodup := by have := W.nd; simpa using this
  refine ⟨⟨⟨W.fr.g.trans C.fr.g, C.fr.i, sH.trans C.fr.h, fun b b1 b2 => ?_, fun b hb => W.fr.k b (C.fr.k b hb)⟩, C.wa, ?_, fun a ha => ?_, fun a ha => ?_⟩, fun a ha => ?_⟩
  · cases q : G b with
    | none => exact W.fr.k b (C.fr.f b b1 q)
    | some o => exact W.fr.f b (by rw [q]; simp) b2
  · obtain ⟨d1, d2⟩ := List.nodup_cons.mp cn
    rw [List.cons_append, List.nodup_cons]
    refine ⟨fun z => ?_, List.nodup_append.mpr ⟨wn, d2, fun a ha b hb e => ?_⟩⟩
    · rcases List.mem_append.mp z with z | z
      · exact fresh l' (by simp) z
      · exact d1 z
    · subst e
      exact fresh a (by simp [hb]) ha
  · have : a ∈ l' :: fpW as' ∨ a ∈ xs := by
      simp only [List.cons_append, List.mem_cons, List.mem_append] at ha ⊢
      rcases ha with h | h | h <;> simp [h]
    rcases this with h | h
    · rcases C.ow a h with q | q
      · cases q
      · exact .inr (W.fr.k a q)
    · exact W.ow a (by simp [h])
  · rcases List.mem_cons.mp ha with rfl | ha
    · exact C.gx _ (by simp)
    · obtain ⟨g, u, hu, ht, hu', g'⟩ := old a ha
      exact ⟨g', u, hu', ht⟩
  · obtain ⟨g, u, hu, ht, hu', g'⟩ := old a ha
    rw [hu, hu']
end
/-- the outcomes' shares -/
noncomputable def goS (gp : List PyData → R PyData) (nought : PyData) : List WayD → List (PyData × PyData) → R (List (PyData × PyData))
  | [], ds => .ok ds
  | w :: ws, ds => match nkT (.tuple [.tuple w.trail, .int w.steps]) with
    | some k => (gp [(nkLook ds k).getD nought, w.share]).b0 fun s => if ds.length < szl then goS gp nought ws (nkPut ds k (.tuple [.tuple w.trail, .int w.steps]) s) else .no
    | none => .no
theorem goS_nx {gp : List PyData → R PyData} {nought : PyData} {c : Nat} : ∀ {ws : List WayD} {ds : List (PyData × PyData)}, goS gp nought ws ds ≠ .ex c
  | [], ds, h => by cases h
  | w :: ws, ds, h => by
    unfold goS at h
    split at h
    · rename_i k hk
      cases q : gp [(nkLook ds k).getD nought, w.share] with
      | ok s =>
        rw [q] at h
        have h : (if ds.length < szl then goS gp nought ws (nkPut ds k (.tuple [.tuple w.trail, .int w.steps]) s) else .no) = .ex c := h
        split at h
        · exact goS_nx h
        · cases h
      | ex c => rw [q] at h; cases h
      | no => rw [q] at h; cases h
    · cases h
noncomputable def gOut (g1 g2 : EF) (gw : List PyData → R (List WayD)) (gp : List PyData → R PyData) (nought : PyData) (fend : EF) : List PyData → R PyData
  | [p, h, b] => (g1 [some p, some h, some b, none, none, none]).bind fun _ => (g2 [some p, some h, some b, none, none, none]).bind fun _ => (gw [p, h, b]).bind fun ws => (goS gp nought ws []).bind fun ds => fend [some p, some h, some b, some (.dict ((.none, .none) :: ds)), none, none]
  | _ => .no
/-- for way in ways_of(..): the shares grow -/
def rdShr (K : PySem.W.Frag) (ec : Nat → Addr) (W : WX) (gw : List PyData → R (List WayD)) (gp : List PyData → R PyData) (vN : V) : TS := tFor (iList K (tCallS (spW0 K ec 3 gw) (WE W) (tCons (tVar 0) (tCons (tVar 1) (tCons (tVar 2) tNil))))) (gName 4)
  (tSeq (tAsg (tTup (tCons (tFld K (tVar 4) (Str.ofString "trail")) (tCons (tFld K (tVar 4) (Str.ofString "steps")) tNil))) (gName 5)) (sNPut K (tVar 3) (tVar 5) (tCallS (spP K ec 2 gp) (WE W) (tCons (tNGet2 K (tVar 3) (tVar 5) (tC vN)) (tCons (tFld K (tVar 4) (Str.ofString "share")) tNil)))))
section
variable {P : Program} {w : World} {K : PySem.W.Frag} {mg : Str → Option Value} {base : Heap}
theorem fn_out {ec : Nat → Addr} {qual x : Str} {st : Stmt} {f C : Addr} {fd : FuncData} {k : Nat} {nm ps : List Str} {g1 g2 fend : EF} {gw : List PyData → R (List WayD)} {gp : List PyData → R PyData} {nought : PyData} {vN : V} (F : Fun K x qual st f fd) (S : FnScope nm ps (defScope st)) (hp : ps.length = 3) (hnm : nm.length = 6) (Wc : WayC K C) (hN : ∀ G, Rep K G vN nought)
    (hbody : ∀ (cdv : Value) (A : Around) (outer : List Env) (s : Shared) (H : Hp) (E : XK), Room k (A.deeper (envOfC qual (defScope st) s.heap.objs.size f cdv)) → PSs (cxOf (L2N.CX P w) P w K mg base nm qual (defScope st) f cdv A outer s H E) (defBody st)
      (tSeq (tDrop (tD K ec (fun cls d _ H => E cls d H) g1)) (tSeq (tDrop (tD K ec (fun cls d _ H => E cls d H) g2)) (tSeq (tAsg tNNew (gName 3)) (tSeq (rdShr K ec (fun cls d _ H => E cls d H) gw gp vN) (tRet (tD K ec (fun cls d _ H => E cls d H) fend))))))) :
    FnOk P w K mg base (L2N.CX P w) (k + 1) f fd ps (spP K ec 3 (gOut g1 g2 gw gp nought fend)) := by
  obtain ⟨oc, od, kV, doc, pm, an, cdv, ct, osl, rfl, lk, hcd⟩ := F.ex
  refine fn_of lk hcd S (fun vs H Q E h => by rw [h.1, hp]) fun A outer s H vs Q E hr h => ?_
  obtain ⟨hl, G, ds, tb, i, ra, po⟩ := h
  refine ⟨_, hbody cdv A outer s H E hr, ?_⟩
  obtain ⟨v0, v1, v2, rfl⟩ : ∃ v0 v1 v2, vs = [v0, v1, v2] := by
    match vs, hl with
    | [a, b, c], _ => exact ⟨a, b, c, rfl⟩
  cases ra with
  | cons r0 ra =>
  cases ra with
  | cons r1 ra =>
  cases ra with
  | cons r2 ra =>
  cases ra
  rename_i d0 d1 d2
  have hs : ∀ i v, [v0, v1, v2][i]? = some v → (start nm [v0, v1, v2])[i]? = some (some v) := fun i v h => by
    unfold L2.start
    have hi : i < 3 := by have := (List.getElem?_eq_some_iff.mp h).1; simpa using this
    rw [List.getElem?_append_left (by simpa using hi), List.getElem?_map, h]
    rfl
  have hlen : (start nm [v0, v1, v2]).length = 6 := by unfold L2.start; simp [hnm]
  generalize start nm [v0, v1, v2] = σ at *
  have env0 : ∀ {σ' : L2.St} {G' : Hp}, Same G G' → σ'.length = 6 → (∀ j, j < 3 → σ'[j]? = σ[j]?) → EnvR K G' σ' [some d0, some d1, some d2, none, none, none] := fun {σ' G'} g hl' hj => ⟨tb.mono g, by rw [hl']; simp, fun j e q => by
    match j, q with
    | 0, q => cases q; exact ⟨v0, by rw [hj 0 (by omega)]; exact hs 0 _ rfl, r0.mono g⟩
    | 1, q => cases q; exact ⟨v1, by rw [hj 1 (by omega)]; exact hs 1 _ rfl, r1.mono g⟩
    | 2, q => cases q; exact ⟨v2, by rw [hj 2 (by omega)]; exact hs 2 _ rfl, r2.mono g⟩
    | 3, q => cases q
    | 4, q => cases q
    | 5, q => cases q
    | j + 6, q => simp at q⟩
  have po : PostF K ec G H Q E ((g1 [some d0, some d1, some d2, none, none, none]).bind fun _ => (g2 [some d0, some d1, some d2, none, none, none]).bind fun _ => (gw [d0, d1, d2]).bind fun ws => (goS gp nought ws []).bind fun ds => fend [some d0, some d1, some d2, some (.dict ((.none, .none) :: ds)), none, none]) := po
  have W0 : WG K G H [] G H [] [] [] := ⟨Fr.start i, .nil, by simp, fun a ha => by simp at ha, fun a ha => by cases ha⟩
  refine ⟨G, _, i, env0 (Same.refl _) hlen (fun _ _ => rfl), ?_⟩
  cases q1 : g1 [some d0, some d1, some d2, none, none, none] with
  | no => rw [q1] at po; exact po.elim
  | ex c => rw [q1] at po; exact fun H' s => po H' s
  | ok x1 =>
  rw [q1, R.bind_ok] at po
  intro y1 G1 H1 e1 _
  have W1 := W0.ext e1
  refine ⟨G1, _, e1.i, env0 e1.g hlen (fun _ _ => rfl), ?_⟩
  cases q2 : g2 [some d0, some d1, some d2, none, none, none] with
  | no => rw [q2] at po; exact po.elim
  | ex c => rw [q2] at po; exact fun H' s => po H' (e1.h.trans s)
  | ok x2 =>
  rw [q2, R.bind_ok] at po
  intro y2 G2 H2 e2 _
  have W2 := W1.ext e2
  intro sd nsd
  have W3 := W2.new nsd (raw_Dn sd [])
  have h3 : upd H2 sd (DnO sd []) sd = some (DnO sd []) := upd_same
  generalize upd H2 sd (DnO sd []) = H3 at *
  have a0 : (σ.set 3 (some (V.ref sd)))[0]? = some (some v0) := by rw [List.getElem?_set_ne (by decide)]; exact hs 0 _ rfl
  have a1 : (σ.set 3 (some (V.ref sd)))[1]? = some (some v1) := by rw [List.getElem?_set_ne (by decide)]; exact hs 1 _ rfl
  have a2 : (σ.set 3 (some (V.ref sd)))[2]? = some (some v2) := by rw [List.getElem?_set_ne (by decide)]; exact hs 2 _ rfl
  have a3 : (σ.set 3 (some (V.ref sd)))[3]? = some (some (.ref sd)) := by rw [List.getElem?_set_self (by omega)]
  have al : (σ.set 3 (some (V.ref sd))).length = 6 := by simp [hlen]
  have aj : ∀ j, j < 3 → (σ.set 3 (some (V.ref sd)))[j]? = σ[j]? := fun j hj => by rw [List.getElem?_set_ne (by omega)]
  have g02 : Same G G2 := e1.g.trans e2.g
  refine ⟨v0, a0, v1, a1, v2, a2, rfl, G2, [d0, d1, d2], tb.mono g02, W3.fr.i, .cons (r0.mono g02) (.cons (r1.mono g02) (.cons (r2.mono g02) .nil)), ?_⟩
  cases q3 : gw [d0, d1, d2] with
  | no => rw [q3] at po; exact po.elim
  | ex c =>
    rw [q3] at po
    intro H' s
    refine po H' (Same.trans ?_ ((W3.outer (fp := []) (by simp)).trans s))
    exact Same.all fun b o h => by rw [delF_out (by simp)]; exact h
  | ok ws =>
  rw [q3, R.bind_ok] at po
  intro G4 H4 l as Cw hl4
  obtain ⟨W4, k4⟩ := W3.call1 Cw
  have h4 : H4 sd = some (DnO sd []) := by rw [k4 sd (by simp)]; exact h3
  have alen := W4.wa.len
  refine ⟨l, rfl, ⟨_, SqL.of hl4⟩, ?_⟩
  refine for_it (walk_list (xs := as.map fun p => V.ref p.1)) (fun i σ' H' => ∃ G' ks ds, σ'.length = 6 ∧ (∀ j, j < 3 → σ'[j]? = σ[j]?) ∧ σ'[3]? = some (some (.ref sd)) ∧ H' l = some (.lst (as.map fun p => V.ref p.1)) ∧ H' sd = some (DnO sd ks) ∧ RepN K G' ks ds ∧ Same G4 G' ∧ WG K G H [] G' H' [l, sd] as ws ∧ PostF K ec G H Q E ((goS gp nought (ws.drop i) ds).bind fun ds => fend [some d0, some d1, some d2, some (.dict ((.none, .none) :: ds)), none, none]))
    ⟨G4, [], [], al, aj, a3, hl4, h4, .nil, Same.refl _, W4, by rw [List.drop_zero]; exact po⟩ ?_ ?_ ?_
  · rintro i σ' H' _ ⟨_, _, _, _, _, _, h, _⟩
    exact SqL.of h
  · rintro i x σ' H' H'' hi ⟨G', ks, ds, s1, s2, s3, hl', hd', rn, g4', W', p'⟩ ⟨rfl, hx⟩
    rw [List.length_map] at hi
    rw [List.getElem?_map] at hx
    cases hpp : as[i]? with
    | none => rw [hpp] at hx; cases hx
    | some p =>
      rw [hpp] at hx
      cases hx
      have hiw : i < ws.length := by omega
      have ea := seq_el hpp
      have tl : (as.take i).length = (ws.take i).length := by simp; omega
      have ew : ws = ws.take i ++ (ws[i] :: ws.drop (i + 1)) := by rw [← List.drop_eq_getElem_cons hiw, List.take_append_drop]
      have ea' : as = as.take i ++ (p :: as.drop (i + 1)) := ea
      have Wm : WayA K G' H'' p ws[i] := by
        have W2 := W'
        rw [ew, ea'] at W2
        exact W2.mid tl
      obtain ⟨C', dx, vt, vs, kvs, hC, b1, b2, b3, bn, brk, brt, brs, bg1, bg2⟩ := Wm
      rw [Wc.at'] at hC
      cases hC
      have c4 : (σ'.set 4 (some (V.ref p.1)))[4]? = some (some (V.ref p.1)) := by rw [List.getElem?_set_self (by omega)]
      rw [List.drop_eq_getElem_cons hiw, goS] at p'
      cases hk : nkT (.tuple [.tuple ws[i].trail, .int ws[i].steps]) with
      | none => rw [hk] at p'; exact p'.elim
      | some kk =>
        rw [hk] at p'
        dsimp only at p'
        obtain ⟨hk1, hk2, _⟩ := nkT_of hk
        refine ⟨.ref p.1, c4, p.1, C, dx, _, vt, rfl, b1, Wc.c, Wc.n2, lk_trail _ _ _ _, ?_⟩
        refine ⟨.ref p.1, c4, p.1, C, dx, _, .int ws[i].steps, rfl, b1, Wc.c, Wc.n3, lk_steps _ _ _ _, ?_⟩
        refine ⟨by simp [sizeLine_eq], fun kq nkq => ?_⟩
        have e5 : Ext G' H'' (upd G' kq (.tup [vt, .int ws[i].steps])) (upd H'' kq (.tup [vt, .int ws[i].steps])) := Ext.new W'.fr.i nkq
        have rk5 : Rep K (upd G' kq (.tup [vt, .int ws[i].steps])) (.ref kq) (.tuple [.tuple ws[i].trail, .int ws[i].steps]) := .tup (.inl (.inl upd_same)) (.cons (brt.mono e5.g) (.cons (.int _) .nil))
        have W5 := W'.ext e5
        have hl5 := e5.h.lst hl'
        have hd5 := dn_same e5.h hd'
        have b15 := e5.h.ap _ _ b1 (fun _ z => by cases z)
        have g5 := e5.g
        have rs5 := brs.mono e5.g
        have rn5 := rn.mono e5.g
        generalize upd G' kq (.tup [vt, .int ws[i].steps]) = G5 at *
        generalize upd H'' kq (.tup [vt, .int ws[i].steps]) = H5 at *
        have c3 : ((σ'.set 4 (some (V.ref p.1))).set 5 (some (V.ref kq)))[3]? = some (some (.ref sd)) := by rw [List.getElem?_set_ne (by decide), List.getElem?_set_ne (by decide)]; exact s3
        have c5 : ((σ'.set 4 (some (V.ref p.1))).set 5 (some (V.ref kq)))[5]? = some (some (.ref kq)) := by rw [List.getElem?_set_self (by simp [s1])]
        have c4' : ((σ'.set 4 (some (V.ref p.1))).set 5 (some (V.ref kq)))[4]? = some (some (V.ref p.1)) := by rw [List.getElem?_set_ne (by decide)]; exact c4
        refine ⟨.ref sd, c3, sd, ks, rfl, hd5, .ref kq, c5, ks, ds, kk, hd5, rn5.mono W5.fr.i, ⟨kq, _, rfl, rk5.mono W5.fr.i, hk1, hk2⟩, ?_⟩
        refine ⟨.ref p.1, c4', p.1, C, dx, _, vs, rfl, b15, Wc.c, Wc.n4, lk_share _ _ _ _, ?_⟩
        have rl : Rep K G5 ((nLook ks kk).getD vN) ((nkLook ds kk).getD nought) := by
          rcases rn5.look kk with ⟨z1, z2⟩ | ⟨v', d', z1, z2, z3⟩
          · rw [z1, z2]; exact hN _
          · rw [z1, z2]; exact z3
        refine ⟨rfl, G5, [(nkLook ds kk).getD nought, ws[i].share], tb.mono W5.fr.g, W5.fr.i, .cons rl (.cons rs5 .nil), ?_⟩
        cases qp : gp [(nkLook ds kk).getD nought, ws[i].share] with
        | no => rw [qp] at p'; exact p'.elim
        | ex c => rw [qp] at p'; exact p'.elim
        | ok sh =>
          rw [qp] at p'
          have p' : PostF K ec G H Q E ((if ds.length < szl then goS gp nought (ws.drop (i + 1)) (nkPut ds kk (.tuple [.tuple ws[i].trail, .int ws[i].steps]) sh) else .no).bind fun ds => fend [some d0, some d1, some d2, some (.dict ((.none, .none) :: ds)), none, none]) := p'
          by_cases hz : ds.length < szl
          · rw [if_pos hz] at p'
            intro v6 G6 H6 e6 r6
            have W6 := W5.ext e6
            have hd6 := dn_same e6.h hd5
            have rn6 := rn5.mono e6.g
            have rk6 := rk5.mono e6.g
            refine ⟨.ref sd, c3, .ref kq, c5, sd, ks, ds, kq, _, kk, rfl, hd6, rn6.mono W6.fr.i, rfl, rk6.mono W6.fr.i, hk1, hk2, Nat.lt_of_lt_of_le (by rw [rn6.len]; exact hz) (szl_line (Nat.le_refl _)), ?_⟩
            have nls : l ≠ sd := by
              have := W6.nd
              simp only [List.cons_append, List.nil_append, List.nodup_cons, List.mem_cons, not_or] at this
              exact this.1.1
            have hsdw : sd ∉ fpW as := by
              have := W6.nd
              simp only [List.cons_append, List.nil_append, List.nodup_cons, List.mem_cons, not_or] at this
              exact this.2.1
            have W7 := W6.put (a := sd) (o := DnO sd (nPut ks kk kq v6)) (by simp) (raw_Dn _ _) (W6.wa.keep (Same.refl _) (fun b o h1 h2 => by
              rw [upd_ne]
              · exact h1
              · rcases h2 with h2 | ⟨x, rfl⟩
                · rintro rfl; exact hsdw h2
                · rintro rfl
                  rw [hd6] at h1
                  unfold DnO at h1
                  cases h1) fun a ha => (W6.wa.tame a ha).1)
            refine ⟨G6, _, _, by simp [s1], fun j hj => by rw [List.getElem?_set_ne (by omega), List.getElem?_set_ne (by omega)]; exact s2 j hj, c3, by rw [upd_ne nls]; exact e6.h.lst hl5, upd_same, rn6.put hk1 hk2 rk6 r6, (g4'.trans g5).trans e6.g, W7, p'⟩
          · rw [if_neg hz] at p'
            exact p'.elim
  · rintro σ' H' ⟨G', ks, ds, s1, s2, s3, hl', hd', rn, g4', W', p'⟩
    rw [List.length_map, alen, List.drop_length] at p'
    have p' : PostF K ec G H Q E (fend [some d0, some d1, some d2, some (.dict ((.none, .none) :: ds)), none, none]) := p'
    have gsd : G' sd = none := (W'.gx sd (by simp)).1
    have sg : Same G' (upd G' sd (DnO sd ks)) := same_new gsd
    have i7 : Same (upd G' sd (DnO sd ks)) H' := same_in W'.fr.i hd' (tame_Dn _ _)
    refine ⟨upd G' sd (DnO sd ks), [some d0, some d1, some d2, some (.dict ((.none, .none) :: ds)), none, none], i7, ⟨tb.mono (W'.fr.g.trans sg), by rw [s1]; simp, fun j e q => ?_⟩, ?_⟩
    · have g := W'.fr.g.trans sg
      match j, q with
      | 0, q => cases q; exact ⟨v0, by rw [s2 0 (by omega)]; exact hs 0 _ rfl, r0.mono g⟩
      | 1, q => cases q; exact ⟨v1, by rw [s2 1 (by omega)]; exact hs 1 _ rfl, r1.mono g⟩
      | 2, q => cases q; exact ⟨v2, by rw [s2 2 (by omega)]; exact hs 2 _ rfl, r2.mono g⟩
      | 3, q => cases q; exact ⟨.ref sd, s3, .dcn upd_same (rn.mono sg)⟩
      | 4, q => cases q
      | 5, q => cases q
      | j + 6, q => simp at q
    have hH : Same H H' := Same.trans (Same.all fun b o h => by rw [delF_out (by simp)]; exact h) W'.fr.h
    have f0 : ∀ b, upd G' sd (DnO sd ks) b ≠ none → G b = none → H b = none := fun b hb1 hb2 => by
      by_cases z : b = sd
      · subst z
        rcases W'.ow b (by simp) with q | q
        · cases q
        · exact q
      · rw [upd_ne z] at hb1
        exact W'.fr.f b hb1 hb2
    have E0 : Ext G H (upd G' sd (DnO sd ks)) H' := ⟨W'.fr.g.trans sg, hH, i7, f0⟩
    generalize fend [some d0, some d1, some d2, some (.dict ((.none, .none) :: ds)), none, none] = rr at *
    cases rr with
    | no => exact p'.elim
    | ex c => exact fun H2 s => p' H2 (hH.trans s)
    | ok dd => exact fun v G8 H8 e8 r8 => p' v G8 H8 (E0.trans e8) r8
end
end PL
/-! PL, part ao: defs of ways by their names. -/
namespace PL
open PySem PySem.Spec PyProof.Rows L2
structure CalV (P : Program) (w : World) (K : PySem.W.Frag) (mg : Str → Option Value) (base : Heap) (ec : Nat → Addr) (x : Str) (k : Nat) (g : List WayD → PyData → R (List WayD)) : Prop where
  ex : ∃ (f : Addr) (fd : FuncData) (ps : List Str), FnOk P w K mg base (L2N.CX P w) k f fd ps (spW K ec g) ∧ mg x = some (.ref f) ∧ PySem.W.keepIn K (.ref f) = true ∧ Binds K fd ps []
structure CalV0 (P : Program) (w : World) (K : PySem.W.Frag) (mg : Str → Option Value) (base : Heap) (ec : Nat → Addr) (x : Str) (k : Nat) (g : List PyData → R (List WayD)) : Prop where
  ex : ∃ (f : Addr) (fd : FuncData) (ps : List Str), FnOk P w K mg base (L2N.CX P w) k f fd ps (spW0 K ec 3 g) ∧ mg x = some (.ref f) ∧ PySem.W.keepIn K (.ref f) = true ∧ Binds K fd ps []
abbrev psWay : List Str := ["self", "names", "trail", "steps", "share"]
/-- how ways are made -/
structure WayI (P : Program) (w : World) (K : PySem.W.Frag) (mg : Str → Option Value) (base : Heap) (C : Addr) : Prop where
  ex : ∃ (fi : Addr) (fdi : FuncData), Mk K C fi ∧ FnOk P w K mg base (L2N.CX P w) 1 fi fdi psWay (spWi C) ∧ Binds K fdi psWay [] ∧ mg "Way" = some (.ref C)
structure DrM (P : Program) (w : World) (K : PySem.W.Frag) (mg : Str → Option Value) (base : Heap) (C : Addr) (k : Nat) (g : List PyData → R PyData) : Prop where
  ex : ∃ (f : Addr) (fd : FuncData) (ps : List Str), Meth K C "drawn" f ∧ FnOk P w K mg base (L2N.CX P w) k f fd ps (spDr K g) ∧ Binds K fd ps []
theorem fn_noW {P : Program} {w : World} {K : PySem.W.Frag} {mg : Str → Option Value} {base : Heap} {ec : Nat → Addr} {k : Nat} {f : Addr} {fd : FuncData} {ps : List Str} (hn : ps.length = 2) {g : List WayD → PyData → R (List WayD)} (hg : ∀ ws d, g ws d = .no) : FnOk P w K mg base (L2N.CX P w) k f fd ps (spW K ec g) :=
  ⟨fun vs H Q E h => by rw [h.1, hn], fun A outer s H args us vs Q E hr e0 hb r h => by
    obtain ⟨_, l, vb, G, as, ws, d, _, _, _, _, _, _, _, _, p⟩ := h
    rw [hg] at p
    exact p.elim⟩
theorem globD_int_of {K : PySem.W.Frag} {mg : Str → Option Value} {x : Str} {i : Int} (h : GlobD K mg x (.int i)) : ∃ t, mg x = some (.int i t) := by
  obtain ⟨v, u, hm, r, hr⟩ := h
  have := hr (fun _ => none)
  cases this
  obtain ⟨t, rfl⟩ := r
  exact ⟨t, hm⟩
section
variable {X : Cx} {ec : Nat → Addr} {W : WX} {e : Expr} {es : List Expr} {t : TA} {pos p0 : Pos} {wn : Str} {k n : Nat}
theorem pvr (i : Nat) {x : Str} (hi : X.N[i]? = some x := by rfl) (hv : Vis X.env.scope x := by first | exact Or.inl rfl | exact Or.inr (Or.inl rfl) | exact Or.inr (Or.inr rfl)) (hd : (x == ("__debug__" : Str)) = false := by decide) (hcd : (x == ("__classdict__" : Str)) = false := by decide) : PE X (.Name x pos) (tVar i) := pe_var hi hv hd hcd
theorem pe_calV {g : List WayD → PyData → R (List WayD)} (Ca : CalV X.prog X.w X.K X.mg X.base ec wn k g) (tk : L2N.Takes X W) (hr : Room k X.A) (hg : Gl X wn) (ha : PA X (e :: es) t) (hdb : (wn == ("__debug__" : Str)) = false := by decide) (he : starEach (e :: es) X.env = (false, eval e X.env) :: starEach es X.env := by rfl) (hpl : (backTo pos (starEach es X.env)).any (·.1) = false := by rfl) :
    PE X (.Call (.Name wn p0) (e :: es) [] pos) (tCallS (spW X.K ec g) (WE W) t) := by
  obtain ⟨f, fd, ps, F, hm, hk, hb⟩ := Ca.ex
  exact pe_callS (E := WE W) F hr hg hm hk hb (fun σ => L2N.passAt tk σ) ha hdb he hpl
theorem pe_calV0 {g : List PyData → R (List WayD)} (Ca : CalV0 X.prog X.w X.K X.mg X.base ec wn k g) (tk : L2N.Takes X W) (hr : Room k X.A) (hg : Gl X wn) (ha : PA X (e :: es) t) (hdb : (wn == ("__debug__" : Str)) = false := by decide) (he : starEach (e :: es) X.env = (false, eval e X.env) :: starEach es X.env := by rfl) (hpl : (backTo pos (starEach es X.env)).any (·.1) = false := by rfl) :
    PE X (.Call (.Name wn p0) (e :: es) [] pos) (tCallS (spW0 X.K ec 3 g) (WE W) t) := by
  obtain ⟨f, fd, ps, F, hm, hk, hb⟩ := Ca.ex
  exact pe_callS (E := WE W) F hr hg hm hk hb (fun σ => L2N.passAt tk σ) ha hdb he hpl
theorem pe_calP {g : List PyData → R PyData} (Ca : Cal X.prog X.w X.K X.mg X.base ec wn n k g) (tk : L2N.Takes X W) (hr : Room k X.A) (hg : Gl X wn) (ha : PA X (e :: es) t) (hdb : (wn == ("__debug__" : Str)) = false := by decide) (he : starEach (e :: es) X.env = (false, eval e X.env) :: starEach es X.env := by rfl) (hpl : (backTo pos (starEach es X.env)).any (·.1) = false := by rfl) :
    PE X (.Call (.Name wn p0) (e :: es) [] pos) (tCallS (spP X.K ec n g) (WE W) t) := by
  obtain ⟨f, fd, ps, F, hm, hk, hb⟩ := Ca.ex
  exact pe_callS (E := WE W) F hr hg hm hk hb (fun σ => L2N.passAt tk σ) ha hdb he hpl
end
end PL
namespace My
open PySem L2 PL
noncomputable section
def top (i : Nat) : Stmt := PySem.Challenge.pw_tellweight_k22_ways_at_the_bound.main.body.getD i (.Pass ⟨0, 0, 0, 0⟩)
def wdL : Nat → Option Str := fun c => if c = 0 then some "BadHouse" else if c = 1 then some "BadProgram" else if c = 6 then some "TooMany" else none
abbrev s__law_word : Stmt := top 46
abbrev N__law_word : List Str := ["e", "flags", "words", "flag"]
abbrev s__law_drawn : Stmt := top 45
abbrev N__law_drawn : List Str := ["cell", "k", "more"]
abbrev s__law_cell : Stmt := top 44
abbrev N__law_cell : List Str := ["script", "k"]
abbrev s_is_name : Stmt := top 27
abbrev N_is_name : List Str := ["thing", "sign"]
abbrev s_is_count : Stmt := top 28
abbrev N_is_count : List Str := ["thing", "least", "most"]
abbrev s_is_room : Stmt := top 30
abbrev N_is_room : List Str := ["thing"]
abbrev s_need_house : Stmt := top 31
abbrev N_need_house : List Str := ["house", "many", "name", "size", "one", "other"]
abbrev s_Count_need : Stmt := clsSt (top 32) 1
abbrev N_Count_need : List Str := ["self", "good"]
abbrev s_Count_enter : Stmt := clsSt (top 32) 2
abbrev N_Count_enter : List Str := ["self", "deep"]
abbrev s_is_form : Stmt := top 29
abbrev N_is_form : List Str := ["thing", "size"]
abbrev s_Count_term : Stmt := clsSt (top 32) 3
abbrev N_Count_term : List Str := ["self", "thing", "deep"]
abbrev s_Count_third : Stmt := clsSt (top 32) 5
abbrev N_Count_third : List Str := ["self", "thing", "deep"]
abbrev s_Count_deed : Stmt := clsSt (top 32) 4
abbrev N_Count_deed : List Str := ["self", "thing", "deep"]
abbrev s_Count_block : Stmt := clsSt (top 32) 6
abbrev N_Count_block : List Str := ["self", "thing", "deep", "one"]
abbrev s_Count___init__ : Stmt := clsSt (top 32) 0
abbrev N_Count___init__ : List Str := ["self"]
abbrev s_need_program : Stmt := top 33
abbrev N_need_program : List Str := ["program"]
abbrev s_worth : Stmt := top 37
abbrev N_worth : List Str := ["term", "names", "word", "one", "other"]
abbrev s_Way___init__ : Stmt := clsSt (top 38) 0
abbrev N_Way___init__ : List Str := ["self", "names", "trail", "steps", "share"]
abbrev s_common : Stmt := top 12
abbrev N_common : List Str := ["one", "other"]
abbrev s_fraction : Stmt := top 13
abbrev N_fraction : List Str := ["top", "under", "part"]
abbrev s_times : Stmt := top 15
abbrev N_times : List Str := ["one", "other"]
abbrev s_Way_drawn : Stmt := clsSt (top 38) 1
abbrev N_Way_drawn : List Str := ["self", "name", "number", "many", "names"]
abbrev s_after_deed : Stmt := top 39
abbrev N_after_deed : List Str := ["ways", "deed", "way", "found", "turn", "number"]
abbrev s_after : Stmt := top 40
abbrev N_after : List Str := ["ways", "block", "deed"]
abbrev s_ways_of : Stmt := top 41
abbrev N_ways_of : List Str := ["program", "house", "beginning", "names", "room", "number"]
abbrev s_plus : Stmt := top 14
abbrev N_plus : List Str := ["one", "other"]
abbrev s_outcomes : Stmt := top 42
abbrev N_outcomes : List Str := ["program", "house", "beginning", "shares", "way", "key"]
abbrev s__law_told : Stmt := top 47
abbrev N__law_told : List Str := ["program", "e"]
abbrev s_law : Stmt := top 48
abbrev N_law : List Str := ["script", "k", "more", "sizes", "row", "many", "size", "deeds", "last", "more_ways"]
def c_NOUGHT : PyData := (.tuple [(.int 0), (.int 1)])
def c_ONE : PyData := (.tuple [(.int 1), (.int 1)])
def c_LETTERS : PyData := (.str "abcdefghijklmnopqrstuvwxyz")
def c_MOST_LETTERS : PyData := (.int 4)
def c_MOST_NAMES : PyData := (.int 4)
def c_MOST_SIZE : PyData := (.int 16)
def c_MOST_BEGINNINGS : PyData := (.int 64)
def c_MOST_NUMBER : PyData := (.int 999)
def c_MOST_TIMES : PyData := (.int 6)
def c_MOST_THINGS : PyData := (.int 800)
def c_MOST_WITHIN : PyData := (.int 12)
def c_TWOS : PyData := (.tuple [(.str "sum"), (.str "less"), (.str "times"), (.str "same"), (.str "under")])
def c_REST : PyData := (.int 1000)
def c_MOST_WAYS : PyData := (.int 256)
def fb__law_drawn : SF := (sSeq (sAsg .P 2 (eBin dMod (eBin dAdd (eBin dMul (eVar 0) (eC (.int 6364136223846793005))) (eBin dMul (eBin dAdd (eVar 1) (eC (.int 1))) (eC (.int 1442695040888963407)))) (eC (.int 340282366920938463463374607431768211507)))) (sSeq (sAsg .P 2 (eBin dMod (eBin dMul (eVar 2) (eVar 2)) (eC (.int 340282366920938463463374607431768211297)))) (sSeq (sAsg .P 2 (eBin dMul (eBin dMul (eBin dAdd (eBin dMod (eVar 2) (eC (.int 18446744073709551557))) (eC (.int 1))) (eBin dAdd (eBin dDiv (eVar 2) (eC (.int 18446744073709551557))) (eC (.int 1)))) (eVar 2))) (sRet (eBin dMod (eVar 2) (eC (.int 340282366920938463463374607431768211507)))))))
def g__law_drawn : List PyData → R PyData := PL.shut (runB 3 fb__law_drawn)
theorem g__law_drawn_eq : g__law_drawn = runB 3 fb__law_drawn := PL.shut_eq _
def fb__law_cell : SF := (sSeq (sIf (bVal (eBin dEq (eVar 0) (eLst []))) (sRet (eBin dMul (eVar 1) (eC (.int 7919)))) sNil) (sRet (eBin dAdd (eBin dIx (eVar 0) (eBin dMod (eVar 1) (eCall gLen [(eVar 0)]))) (eBin dMul (eBin dDiv (eVar 1) (eCall gLen [(eVar 0)])) (eC (.int 104729))))))
def g__law_cell : List PyData → R PyData := PL.shut (runB 2 fb__law_cell)
theorem g__law_cell_eq : g__law_cell = runB 2 fb__law_cell := PL.shut_eq _
def fb_is_name : SF := (sSeq (sIf (bOr (bNot (bVal (eUn (dIsi "str") (eVar 0)))) (bNot (bVal (eChain dLe dLe (eC (.int 1)) (eCall gLen [(eVar 0)]) (eC c_MOST_LETTERS))))) (sRet (eC (.bool false))) sNil) (sRet (eCall gAll [(eLc (cN 1) (iSeq (eVar 0)) bYes (eBin dInS (eVar 1) (eC c_LETTERS)))])))
def g_is_name : List PyData → R PyData := PL.shut (runB 2 fb_is_name)
theorem g_is_name_eq : g_is_name = runB 2 fb_is_name := PL.shut_eq _
def fb_is_count : SF := (sRet (eAnd (eUn (dIsi "int") (eVar 0)) (eAnd (eNot (eUn (dIsi "bool") (eVar 0))) (eChain dLe dLe (eVar 1) (eVar 0) (eVar 2)))))
def g_is_count : List PyData → R PyData := PL.shut (runB 3 fb_is_count)
theorem g_is_count_eq : g_is_count = runB 3 fb_is_count := PL.shut_eq _
def fb_is_room : SF := (sRet (eAnd (eUn (dIsi "tuple") (eVar 0)) (eAnd (eBin dEq (eCall gLen [(eVar 0)]) (eC (.int 2))) (eAnd (eCall g_is_name [(eBin dIx (eVar 0) (eC (.int 0)))]) (eCall g_is_count [(eBin dIx (eVar 0) (eC (.int 1))), (eC (.int 1)), (eC c_MOST_SIZE)])))))
def g_is_room : List PyData → R PyData := PL.shut (runB 1 fb_is_room)
theorem g_is_room_eq : g_is_room = runB 1 fb_is_room := PL.shut_eq _
def lp_need_house_0 : SF := (sAsg .P 1 (eBin dMul (eVar 1) (eVar 3)))
def lp_need_house_1 : SF := (sIf (bVal (eBin dGeS (eBin dIx (eVar 4) (eC (.int 0))) (eBin dIx (eVar 5) (eC (.int 0))))) (sRaise 0) sNil)
def fb_need_house : SF := (sSeq (sIf (bOr (bNot (bVal (eUn (dIsi "list") (eVar 0)))) (bOr (bNot (bVal (eChain dLe dLe (eC (.int 1)) (eCall gLen [(eVar 0)]) (eC c_MOST_NAMES)))) (bNot (bVal (eCall gAll [(eLc (cN 4) (iSeq (eVar 0)) bYes (eCall g_is_room [(eVar 4)]))]))))) (sRaise 0) sNil) (sSeq (sAsg .P 1 (eC (.int 1))) (sSeq (sFor (gT [2, 3]) (iSeq (eVar 0)) lp_need_house_0) (sSeq (sFor (gT [4, 5]) (iCall zip2 [(eVar 0), (eSl (eVar 0) (some (eC (.int 1))) none)]) lp_need_house_1) (sIf (bVal (eBin dGt (eVar 1) (eC c_MOST_BEGINNINGS))) (sRaise 0) sNil)))))
def g_need_house : List PyData → R PyData := PL.shut (runB 6 fb_need_house)
theorem g_need_house_eq : g_need_house = runB 6 fb_need_house := PL.shut_eq _
def fb_Count_need : SF := (sIf (bNot (bVal (eVar 1))) (sRaise 1) sNil)
def g_Count_need : PyData → List PyData → R PyData := PL.shut (runO 2 fb_Count_need)
theorem g_Count_need_eq : g_Count_need = runO 2 fb_Count_need := PL.shut_eq _
def g_Count_enter : PyData → List PyData → R PyData := PL.shut (gEnter "Count" 800 12 g_Count_need)
theorem g_Count_enter_eq : g_Count_enter = gEnter "Count" 800 12 g_Count_need := PL.shut_eq _
def fb_is_form : SF := (sRet (eAnd (eUn (dIsi "tuple") (eVar 0)) (eAnd (eBin dEq (eCall gLen [(eVar 0)]) (eVar 1)) (eUn (dIsi "str") (eBin dIx (eVar 0) (eC (.int 0)))))))
def g_is_form : List PyData → R PyData := PL.shut (runB 2 fb_is_form)
theorem g_is_form_eq : g_is_form = runB 2 fb_is_form := PL.shut_eq _
def fb_Count_term (gs_Count_term : PyData → List PyData → R PyData) : SF := (sSeq (sMeth 0 "Count" g_Count_enter [(eVar 2)]) (sIf (bAnd (bVal (eCall g_is_form [(eVar 1), (eC (.int 2))])) (bVal (eBin dEq (eBin dIx (eVar 1) (eC (.int 0))) (eC (.str "num"))))) (sMeth 0 "Count" g_Count_need [(eCall g_is_count [(eBin dIx (eVar 1) (eC (.int 1))), (eC (.int 0)), (eC c_MOST_NUMBER)])]) (sIf (bVal (eCall g_is_form [(eVar 1), (eC (.int 2))])) (sMeth 0 "Count" g_Count_need [(eAnd (eBin dEq (eBin dIx (eVar 1) (eC (.int 0))) (eC (.str "name"))) (eCall g_is_name [(eBin dIx (eVar 1) (eC (.int 1)))]))]) (sSeq (sMeth 0 "Count" g_Count_need [(eAnd (eCall g_is_form [(eVar 1), (eC (.int 3))]) (eBin dIn (eBin dIx (eVar 1) (eC (.int 0))) (eC c_TWOS)))]) (sSeq (sMeth 0 "Count" gs_Count_term [(eBin dIx (eVar 1) (eC (.int 1))), (eBin dAdd (eVar 2) (eC (.int 1)))]) (sMeth 0 "Count" gs_Count_term [(eBin dIx (eVar 1) (eC (.int 2))), (eBin dAdd (eVar 2) (eC (.int 1)))]))))))
def gr_Count_term : Nat → (PyData → List PyData → R PyData)
  | 0 => fun _ _ => .no
  | n + 1 => runO 3 (fb_Count_term (PL.shut (gr_Count_term n)))
def g_Count_term (n : Nat) : PyData → List PyData → R PyData := PL.shut ((gr_Count_term n))
theorem g_Count_term_z : g_Count_term 0 = fun _ _ => .no := PL.shut_eq _
theorem g_Count_term_s (n : Nat) : g_Count_term (n + 1) = runO 3 (fb_Count_term (g_Count_term n)) := PL.shut_eq _
def fb_Count_third (gs_Count_block : PyData → List PyData → R PyData) : SF := (sIf (bVal (eBin dEq (eBin dIx (eVar 1) (eC (.int 0))) (eC (.str "put")))) (sSeq (sMeth 0 "Count" g_Count_need [(eCall g_is_name [(eBin dIx (eVar 1) (eC (.int 1)))])]) (sMeth 0 "Count" (g_Count_term 14) [(eBin dIx (eVar 1) (eC (.int 2))), (eBin dAdd (eVar 2) (eC (.int 1)))])) (sIf (bVal (eBin dEq (eBin dIx (eVar 1) (eC (.int 0))) (eC (.str "again")))) (sSeq (sMeth 0 "Count" g_Count_need [(eCall g_is_count [(eBin dIx (eVar 1) (eC (.int 1))), (eC (.int 0)), (eC c_MOST_TIMES)])]) (sMeth 0 "Count" gs_Count_block [(eBin dIx (eVar 1) (eC (.int 2))), (eBin dAdd (eVar 2) (eC (.int 1)))])) (sMeth 0 "Count" g_Count_need [(eAnd (eCall g_is_name [(eBin dIx (eVar 1) (eC (.int 1)))]) (eCall g_is_count [(eBin dIx (eVar 1) (eC (.int 2))), (eC (.int 1)), (eC c_MOST_TIMES)]))])))
def fb_Count_deed (gs_Count_block : PyData → List PyData → R PyData) (gs_Count_third : PyData → List PyData → R PyData) : SF := (sSeq (sMeth 0 "Count" g_Count_enter [(eVar 2)]) (sIf (bVal (eCall g_is_form [(eVar 1), (eC (.int 2))])) (sSeq (sMeth 0 "Count" g_Count_need [(eBin dEq (eBin dIx (eVar 1) (eC (.int 0))) (eC (.str "show")))]) (sMeth 0 "Count" (g_Count_term 14) [(eBin dIx (eVar 1) (eC (.int 1))), (eBin dAdd (eVar 2) (eC (.int 1)))])) (sIf (bVal (eCall g_is_form [(eVar 1), (eC (.int 4))])) (sSeq (sMeth 0 "Count" g_Count_need [(eBin dEq (eBin dIx (eVar 1) (eC (.int 0))) (eC (.str "if")))]) (sSeq (sMeth 0 "Count" (g_Count_term 14) [(eBin dIx (eVar 1) (eC (.int 1))), (eBin dAdd (eVar 2) (eC (.int 1)))]) (sSeq (sMeth 0 "Count" gs_Count_block [(eBin dIx (eVar 1) (eC (.int 2))), (eBin dAdd (eVar 2) (eC (.int 1)))]) (sMeth 0 "Count" gs_Count_block [(eBin dIx (eVar 1) (eC (.int 3))), (eBin dAdd (eVar 2) (eC (.int 1)))])))) (sSeq (sMeth 0 "Count" g_Count_need [(eAnd (eCall g_is_form [(eVar 1), (eC (.int 3))]) (eBin dIn (eBin dIx (eVar 1) (eC (.int 0))) (eTup [(eC (.str "put")), (eC (.str "again")), (eC (.str "draw"))])))]) (sMeth 0 "Count" gs_Count_third [(eVar 1), (eVar 2)])))))
def lp_Count_block_0 (gs_Count_deed : PyData → List PyData → R PyData) : SF := (sMeth 0 "Count" gs_Count_deed [(eVar 3), (eVar 2)])
def fb_Count_block (gs_Count_deed : PyData → List PyData → R PyData) : SF := (sSeq (sMeth 0 "Count" g_Count_need [(eUn (dIsi "tuple") (eVar 1))]) (sFor (gN 3) (iSeq (eVar 1)) (lp_Count_block_0 gs_Count_deed)))
def gr_Count_block : Nat → (PyData → List PyData → R PyData) × (PyData → List PyData → R PyData) × (PyData → List PyData → R PyData)
  | 0 => (fun _ _ => .no, fun _ _ => .no, fun _ _ => .no)
  | n + 1 => (runO 4 (fb_Count_block (PL.shut ((gr_Count_block n).2.1))), runO 3 (fb_Count_deed (PL.shut ((gr_Count_block n).1)) (PL.shut ((gr_Count_block n).2.2))), runO 3 (fb_Count_third (PL.shut ((gr_Count_block n).1))))
def g_Count_block (n : Nat) : PyData → List PyData → R PyData := PL.shut ((gr_Count_block n).1)
def g_Count_deed (n : Nat) : PyData → List PyData → R PyData := PL.shut ((gr_Count_block n).2.1)
def g_Count_third (n : Nat) : PyData → List PyData → R PyData := PL.shut ((gr_Count_block n).2.2)
theorem g_Count_block_z : g_Count_block 0 = fun _ _ => .no := PL.shut_eq _
theorem g_Count_block_s (n : Nat) : g_Count_block (n + 1) = runO 4 (fb_Count_block (g_Count_deed n)) := PL.shut_eq _
theorem g_Count_deed_z : g_Count_deed 0 = fun _ _ => .no := PL.shut_eq _
theorem g_Count_deed_s (n : Nat) : g_Count_deed (n + 1) = runO 3 (fb_Count_deed (g_Count_block n) (g_Count_third n)) := PL.shut_eq _
theorem g_Count_third_z : g_Count_third 0 = fun _ _ => .no := PL.shut_eq _
theorem g_Count_third_s (n : Nat) : g_Count_third (n + 1) = runO 3 (fb_Count_third (g_Count_block n)) := PL.shut_eq _
def fb_need_program : SF := (sNew "Count" (g_Count_block 42) [(eVar 0), (eC (.int 1))])
def g_need_program : List PyData → R PyData := PL.shut (runB 1 fb_need_program)
theorem g_need_program_eq : g_need_program = runB 1 fb_need_program := PL.shut_eq _
def fb_worth (gs_worth : List PyData → R PyData) : SF := (sSeq (sAsg .P 2 (eBin dIx (eVar 0) (eC (.int 0)))) (sSeq (sIf (bVal (eBin dEq (eVar 2) (eC (.str "num")))) (sRet (eBin dIx (eVar 0) (eC (.int 1)))) sNil) (sSeq (sIf (bVal (eBin dEq (eVar 2) (eC (.str "name")))) (sRet (eGet2 (eVar 1) (eBin dIx (eVar 0) (eC (.int 1))) (eC (.int 0)))) sNil) (sSeq (sAsg .P 3 (eCall gs_worth [(eBin dIx (eVar 0) (eC (.int 1))), (eVar 1)])) (sSeq (sAsg .P 4 (eCall gs_worth [(eBin dIx (eVar 0) (eC (.int 2))), (eVar 1)])) (sSeq (sIf (bVal (eBin dEq (eVar 2) (eC (.str "sum")))) (sRet (eBin dMod (eBin dAdd (eVar 3) (eVar 4)) (eC c_REST))) sNil) (sSeq (sIf (bVal (eBin dEq (eVar 2) (eC (.str "less")))) (sRet (eBin dMod (eBin dSub (eVar 3) (eVar 4)) (eC c_REST))) sNil) (sSeq (sIf (bVal (eBin dEq (eVar 2) (eC (.str "times")))) (sRet (eBin dMod (eBin dMul (eVar 3) (eVar 4)) (eC c_REST))) sNil) (sSeq (sIf (bVal (eBin dEq (eVar 2) (eC (.str "same")))) (sRet (eCall gInt [(eBin dEq (eVar 3) (eVar 4))])) sNil) (sRet (eCall gInt [(eBin dLt (eVar 3) (eVar 4))])))))))))))
def gr_worth : Nat → (List PyData → R PyData)
  | 0 => fun _ => .no
  | n + 1 => runB 5 (fb_worth (PL.shut (gr_worth n)))
def g_worth (n : Nat) : List PyData → R PyData := PL.shut ((gr_worth n))
theorem g_worth_z : g_worth 0 = fun _ => .no := PL.shut_eq _
theorem g_worth_s (n : Nat) : g_worth (n + 1) = runB 5 (fb_worth (g_worth n)) := PL.shut_eq _
def lp_common_0 : SF := (sPar .P 0 1 [(eVar 1), (eBin dMod (eVar 0) (eVar 1))])
def fb_common : SF := (sSeq (sWhile fuelW (bVal (eBin dGt (eVar 1) (eC (.int 0)))) lp_common_0) (sRet (eVar 0)))
def g_common : List PyData → R PyData := PL.shut (runB 2 fb_common)
theorem g_common_eq : g_common = runB 2 fb_common := PL.shut_eq _
def fb_fraction : SF := (sSeq (sAsg .P 2 (eCall g_common [(eCall gAbs [(eVar 0)]), (eVar 1)])) (sRet (eTup [(eBin dDiv (eVar 0) (eVar 2)), (eBin dDiv (eVar 1) (eVar 2))])))
def g_fraction : List PyData → R PyData := PL.shut (runB 3 fb_fraction)
theorem g_fraction_eq : g_fraction = runB 3 fb_fraction := PL.shut_eq _
def fb_times : SF := (sRet (eCall g_fraction [(eBin dMul (eBin dIx (eVar 0) (eC (.int 0))) (eBin dIx (eVar 1) (eC (.int 0)))), (eBin dMul (eBin dIx (eVar 0) (eC (.int 1))) (eBin dIx (eVar 1) (eC (.int 1))))]))
def g_times : List PyData → R PyData := PL.shut (runB 2 fb_times)
theorem g_times_eq : g_times = runB 2 fb_times := PL.shut_eq _
def gr_after : Nat → (List WayD → PyData → R (List WayD)) × (List WayD → PyData → R (List WayD))
  | 0 => (fun _ _ => .no, fun _ _ => .no)
  | n + 1 => (gAfter (PL.shut ((gr_after n).2)), gDeed 256 6 (PL.shut ((gr_after n).1)) (g_worth 14) g_times)
def g_after (n : Nat) : List WayD → PyData → R (List WayD) := PL.shut ((gr_after n).1)
def g_after_deed (n : Nat) : List WayD → PyData → R (List WayD) := PL.shut ((gr_after n).2)
theorem g_after_z : g_after 0 = fun _ _ => .no := PL.shut_eq _
theorem g_after_s (n : Nat) : g_after (n + 1) = gAfter (g_after_deed n) := PL.shut_eq _
theorem g_after_deed_z : g_after_deed 0 = fun _ _ => .no := PL.shut_eq _
theorem g_after_deed_s (n : Nat) : g_after_deed (n + 1) = gDeed 256 6 (g_after n) (g_worth 14) g_times := PL.shut_eq _
def fe_ways_of : EF := (eCall gDictP [(eLc (cT [4, 5]) (iCall zipM [(eVar 1), (eVar 2)]) bYes (eTup [(eBin dIx (eVar 4) (eC (.int 0))), (eVar 5)]))])
def g_ways_of : List PyData → R (List WayD) := PL.shut (gWays (g_after 30) fe_ways_of c_ONE)
theorem g_ways_of_eq : g_ways_of = gWays (g_after 30) fe_ways_of c_ONE := PL.shut_eq _
def fb_plus : SF := (sRet (eCall g_fraction [(eBin dAdd (eBin dMul (eBin dIx (eVar 0) (eC (.int 0))) (eBin dIx (eVar 1) (eC (.int 1)))) (eBin dMul (eBin dIx (eVar 1) (eC (.int 0))) (eBin dIx (eVar 0) (eC (.int 1))))), (eBin dMul (eBin dIx (eVar 0) (eC (.int 1))) (eBin dIx (eVar 1) (eC (.int 1))))]))
def g_plus : List PyData → R PyData := PL.shut (runB 2 fb_plus)
theorem g_plus_eq : g_plus = runB 2 fb_plus := PL.shut_eq _
def fe_outcomes : EF := (eLc (cN 5) (iSeq (eCall gSortN [(eVar 3)])) bYes (eBin dAdd (eVar 5) (eTup [(eBin dNIx (eVar 3) (eVar 5))])))
def g_outcomes : List PyData → R PyData := PL.shut (gOut (eCall g_need_house [(eVar 1)]) (eCall g_need_program [(eVar 0)]) g_ways_of g_plus c_NOUGHT fe_outcomes)
theorem g_outcomes_eq : g_outcomes = gOut (eCall g_need_house [(eVar 1)]) (eCall g_need_program [(eVar 0)]) g_ways_of g_plus c_NOUGHT fe_outcomes := PL.shut_eq _
def fb__law_told : SF := (sTry wdL (sRet (eCall gLen [(eCall g_outcomes [(eVar 0), (eLst [(eTup [(eC (.str "a")), (eC (.int 2))])]), (eTup [(eC (.int 1))])])])))
def g__law_told : List PyData → R PyData := PL.shut (runB 2 fb__law_told)
theorem g__law_told_eq : g__law_told = runB 2 fb__law_told := PL.shut_eq _
def lp_law_0 : SF := (sAsg .P 5 (eBin dMul (eVar 5) (eVar 6)))
def lp_law_1 : SF := (sSeq (sAsg .P 2 (eCall g__law_drawn [(eCall g__law_cell [(eVar 0), (eVar 1)]), (eVar 1)])) (sSeq (sAsg .P 3 (eLst [(eLst [(eC (.int 4)), (eC (.int 4)), (eC (.int 4)), (eC (.int 4))]), (eLst [(eC (.int 2)), (eC (.int 2)), (eC (.int 2)), (eC (.int 2)), (eC (.int 2)), (eC (.int 2)), (eC (.int 2)), (eC (.int 2))]), (eLst [(eC (.int 6)), (eC (.int 6)), (eC (.int 6))]), (eLst [(eC (.int 5)), (eC (.int 5)), (eC (.int 5)), (eC (.int 2))])])) (sSeq (sAsg .P 3 (eBin dAdd (eVar 3) (eLst [(eLst [(eC (.int 5)), (eC (.int 5)), (eC (.int 5)), (eC (.int 3))]), (eLst [(eC (.int 3)), (eC (.int 3)), (eC (.int 3)), (eC (.int 3)), (eC (.int 3))]), (eLst [(eC (.int 4)), (eC (.int 4)), (eC (.int 4)), (eC (.int 5))])]))) (sSeq (sAsg .P 3 (eBin dAdd (eVar 3) (eLst [(eLst [(eC (.int 6)), (eC (.int 6)), (eC (.int 6)), (eC (.int 1))]), (eLst [(eC (.int 2)), (eC (.int 4)), (eC (.int 4)), (eC (.int 4)), (eC (.int 2))]), (eLst [(eC (.int 6)), (eC (.int 6)), (eC (.int 4)), (eC (.int 2))])]))) (sSeq (sAsg .P 3 (eBin dAdd (eVar 3) (eLst [(eLst [(eC (.int 1)), (eC (.int 1)), (eC (.int 1)), (eC (.int 1)), (eBin dDiv (eC (.int 257)) (eC (.int 64))), (eC (.int 4)), (eC (.int 4)), (eC (.int 4))])]))) (sSeq (sAsg .P 4 (eBin dIx (eVar 3) (eBin dMod (eVar 2) (eC (.int 11))))) (sSeq (sAsg .P 5 (eC (.int 1))) (sSeq (sFor (gN 6) (iSeq (eVar 4)) lp_law_0) (sSeq (sAsg .P 7 (eCall gTuple [(eLc (cN 6) (iSeq (eVar 4)) bYes (eTup [(eC (.str "draw")), (eC (.str "w")), (eVar 6)]))])) (sSeq (sIf (bVal (eBin dEq (eBin dMod (eBin dDiv (eVar 2) (eC (.int 16))) (eC (.int 3))) (eC (.int 1)))) (sAsg .P 7 (eTup [(eTup [(eC (.str "if")), (eTup [(eC (.str "name")), (eC (.str "a"))]), (eVar 7), (eTup [])])])) sNil) (sSeq (sIf (bVal (eBin dEq (eBin dMod (eBin dDiv (eVar 2) (eC (.int 16))) (eC (.int 3))) (eC (.int 2)))) (sAsg .P 7 (eTup [(eTup [(eC (.str "again")), (eC (.int 1)), (eVar 7)])])) sNil) (sSeq (sAsg .P 8 (eBin dIx (eVar 4) (eUn dNeg (eC (.int 1))))) (sSeq (sIf (bVal (eBin dNe (eCall g__law_told [(eBin dAdd (eVar 7) (eTup [(eTup [(eC (.str "show")), (eTup [(eC (.str "name")), (eC (.str "w"))])])]))]) (eBin dIx (eLst [(eVar 8), (eC (.str "TooMany"))]) (eCall gInt [(eBin dGt (eVar 5) (eC (.int 256)))])))) (sRet (eC (.bool false))) sNil) (sSeq (sIf (bVal (eBin dNe (eCall g__law_told [(eVar 7)]) (eBin dIx (eLst [(eC (.int 1)), (eC (.str "TooMany"))]) (eCall gInt [(eBin dGt (eVar 5) (eC (.int 256)))])))) (sRet (eC (.bool false))) sNil) (sSeq (sAsg .P 9 (eTup [(eTup [(eC (.str "draw")), (eC (.str "w")), (eC (.int 2))]), (eTup [(eC (.str "if")), (eTup [(eC (.str "name")), (eC (.str "w"))]), (eVar 7), (eTup [])])])) (sIf (bVal (eBin dNe (eCall g__law_told [(eVar 9)]) (eBin dIx (eLst [(eC (.int 2)), (eC (.str "TooMany"))]) (eCall gInt [(eBin dGt (eBin dAdd (eVar 5) (eC (.int 1))) (eC (.int 256)))])))) (sRet (eC (.bool false))) sNil))))))))))))))))
def fb_law : SF := (sSeq (sFor (gN 1) (iCall rng1 [(eCall gMax2 [(eC (.int 1)), (eCall gMin2 [(eC (.int 4)), (eCall gLen [(eVar 0)])])])]) lp_law_1) (sRet (eC (.bool true))))
def g_law : List PyData → R PyData := PL.shut (runB 10 fb_law)
theorem g_law_eq : g_law = runB 10 fb_law := PL.shut_eq _
end
structure Txt (K : PySem.W.Frag) (mg : Str → Option Value) (ec : Nat → Addr) : Prop where
  ValueError : mg "ValueError" = none
  abs : mg "abs" = none
  all : mg "all" = none
  bool : mg "bool" = none
  dict : mg "dict" = none
  int : mg "int" = none
  isinstance : mg "isinstance" = none
  len : mg "len" = none
  list : mg "list" = none
  max : mg "max" = none
  min : mg "min" = none
  range : mg "range" = none
  sorted : mg "sorted" = none
  str : mg "str" = none
  sum : mg "sum" = none
  tuple : mg "tuple" = none
  zip : mg "zip" = none
  c_LETTERS : GlobD K mg "LETTERS" c_LETTERS
  c_MOST_BEGINNINGS : GlobD K mg "MOST_BEGINNINGS" c_MOST_BEGINNINGS
  c_MOST_LETTERS : GlobD K mg "MOST_LETTERS" c_MOST_LETTERS
  c_MOST_NAMES : GlobD K mg "MOST_NAMES" c_MOST_NAMES
  c_MOST_NUMBER : GlobD K mg "MOST_NUMBER" c_MOST_NUMBER
  c_MOST_SIZE : GlobD K mg "MOST_SIZE" c_MOST_SIZE
  c_MOST_THINGS : GlobD K mg "MOST_THINGS" c_MOST_THINGS
  c_MOST_TIMES : GlobD K mg "MOST_TIMES" c_MOST_TIMES
  c_MOST_WAYS : GlobD K mg "MOST_WAYS" c_MOST_WAYS
  c_MOST_WITHIN : GlobD K mg "MOST_WITHIN" c_MOST_WITHIN
  c_NOUGHT : GlobD K mg "NOUGHT" c_NOUGHT
  c_ONE : GlobD K mg "ONE" c_ONE
  c_REST : GlobD K mg "REST" c_REST
  c_TWOS : GlobD K mg "TWOS" c_TWOS
  x_BadHouse : ExcD K mg ec "BadHouse" 0
  x_BadProgram : ExcD K mg ec "BadProgram" 1
  x_TooMany : ExcD K mg ec "TooMany" 6
  m_TellError : mg "TellError" = some (.ref (ec 8))
  m_BadHouse : mg "BadHouse" = some (.ref (ec 0))
  m_BadProgram : mg "BadProgram" = some (.ref (ec 1))
  m_BadSight : mg "BadSight" = some (.ref (ec 2))
  m_BadTable : mg "BadTable" = some (.ref (ec 3))
  m_BadWeights : mg "BadWeights" = some (.ref (ec 4))
  m_NotPlain : mg "NotPlain" = some (.ref (ec 5))
  m_TooMany : mg "TooMany" = some (.ref (ec 6))
  e_BadHouse : ExcC K (ec 0)
  i_BadHouse_BadHouse : PySem.W.kitOne K (.ref (ec 0)) (.ref (ec 0)) = some true
  i_BadHouse_BadProgram : PySem.W.kitOne K (.ref (ec 0)) (.ref (ec 1)) = some false
  i_BadHouse_BadSight : PySem.W.kitOne K (.ref (ec 0)) (.ref (ec 2)) = some false
  i_BadHouse_BadTable : PySem.W.kitOne K (.ref (ec 0)) (.ref (ec 3)) = some false
  i_BadHouse_BadWeights : PySem.W.kitOne K (.ref (ec 0)) (.ref (ec 4)) = some false
  i_BadHouse_NotPlain : PySem.W.kitOne K (.ref (ec 0)) (.ref (ec 5)) = some false
  i_BadHouse_TooMany : PySem.W.kitOne K (.ref (ec 0)) (.ref (ec 6)) = some false
  v_BadHouse : PySem.W.kitOne K (.ref (ec 0)) (.type "ValueError") = some true
  e_BadProgram : ExcC K (ec 1)
  i_BadProgram_BadHouse : PySem.W.kitOne K (.ref (ec 1)) (.ref (ec 0)) = some false
  i_BadProgram_BadProgram : PySem.W.kitOne K (.ref (ec 1)) (.ref (ec 1)) = some true
  i_BadProgram_BadSight : PySem.W.kitOne K (.ref (ec 1)) (.ref (ec 2)) = some false
  i_BadProgram_BadTable : PySem.W.kitOne K (.ref (ec 1)) (.ref (ec 3)) = some false
  i_BadProgram_BadWeights : PySem.W.kitOne K (.ref (ec 1)) (.ref (ec 4)) = some false
  i_BadProgram_NotPlain : PySem.W.kitOne K (.ref (ec 1)) (.ref (ec 5)) = some false
  i_BadProgram_TooMany : PySem.W.kitOne K (.ref (ec 1)) (.ref (ec 6)) = some false
  v_BadProgram : PySem.W.kitOne K (.ref (ec 1)) (.type "ValueError") = some true
  e_TooMany : ExcC K (ec 6)
  i_TooMany_BadHouse : PySem.W.kitOne K (.ref (ec 6)) (.ref (ec 0)) = some false
  i_TooMany_BadProgram : PySem.W.kitOne K (.ref (ec 6)) (.ref (ec 1)) = some false
  i_TooMany_BadSight : PySem.W.kitOne K (.ref (ec 6)) (.ref (ec 2)) = some false
  i_TooMany_BadTable : PySem.W.kitOne K (.ref (ec 6)) (.ref (ec 3)) = some false
  i_TooMany_BadWeights : PySem.W.kitOne K (.ref (ec 6)) (.ref (ec 4)) = some false
  i_TooMany_NotPlain : PySem.W.kitOne K (.ref (ec 6)) (.ref (ec 5)) = some false
  i_TooMany_TooMany : PySem.W.kitOne K (.ref (ec 6)) (.ref (ec 6)) = some true
  v_TooMany : PySem.W.kitOne K (.ref (ec 6)) (.type "ValueError") = some true
  xm : ∀ c z, wdL c = some z → PySem.W.exmOne K (.ref (ec c)) (.ref (ec 8)) = some true
section
variable {P : Program} {w : World} {K : PySem.W.Frag} {mg : Str → Option Value} {base : Heap} {ec : Nat → Addr}
theorem sc__law_word : FnScope N__law_word ["e"] (defScope s__law_word) := ⟨rfl, rfl, rfl, by decide +kernel, rfl, by decide +kernel, by decide +kernel⟩
theorem ok__law_word {f : Addr} {fd : FuncData} (F : Fun K "_law_word" "_law_word" s__law_word f fd) (T : Txt K mg ec) : FnW P w K mg base 1 f fd "e" ec wdL :=
  fn_word F sc__law_word fun cdv A outer s H E p c z hot hr hwd hz hf => by
    unfold wdL at hwd
    split at hwd
    · rename_i hc; subst hc; cases hwd
      have h : HeldE (L2H.cxH (L2N.CX P w) P w K mg base N__law_word "_law_word" (defScope s__law_word) f cdv A outer s H E p) p (ec 0) := ⟨List.mem_cons_self, ⟨hot.1, hot.2⟩, T.e_BadHouse, hz, hf⟩
      exact ⟨_, (pss_cons (sw_new (H0 := H) (n := 4) (i := 1) sc__law_word.nd (pa_isC (pe_isW h rfl T.isinstance rfl (Or.inl rfl) rfl (.own rfl T.m_BadHouse) T.i_BadHouse_BadHouse) (pa_isC (pe_isW h rfl T.isinstance rfl (Or.inl rfl) rfl (.own rfl T.m_BadProgram) T.i_BadHouse_BadProgram) (pa_isC (pe_isW h rfl T.isinstance rfl (Or.inl rfl) rfl (.own rfl T.m_BadSight) T.i_BadHouse_BadSight) pa_isN))) rfl (Or.inl rfl) (by decide) (by decide) (by decide)) (pss_cons (sw_more (H0 := H) (n := 4) (i := 1) sc__law_word.nd (pa_isC (pe_isW h rfl T.isinstance rfl (Or.inl rfl) rfl (.own rfl T.m_BadTable) T.i_BadHouse_BadTable) pa_isN) rfl (Or.inl rfl) (Or.inl rfl) (by decide) (by decide) (by decide)) (pss_cons (sw_more (H0 := H) (n := 4) (i := 1) sc__law_word.nd (pa_isC (pe_isW h rfl T.isinstance rfl (Or.inl rfl) rfl (.own rfl T.m_BadWeights) T.i_BadHouse_BadWeights) (pa_isC (pe_isW h rfl T.isinstance rfl (Or.inl rfl) rfl (.own rfl T.m_NotPlain) T.i_BadHouse_NotPlain) (pa_isC (pe_isW h rfl T.isinstance rfl (Or.inl rfl) rfl (.own rfl T.m_TooMany) T.i_BadHouse_TooMany) pa_isN))) rfl (Or.inl rfl) (Or.inl rfl) (by decide) (by decide) (by decide)) (pss_cons (sw_if (H0 := H) (n := 4) (i := 1) (c := 3) (own := [("flag", 3)]) h sc__law_word.nd rfl (Or.inl rfl) rfl (by decide) (by decide) (by decide) ⟨rfl, T.sum⟩ (fun _ _ _ _ _ => rfl) T.int (blkOk_by (N := N__law_word) (sc := defScope s__law_word) (by decide +kernel)) rfl (fun _ _ _ _ _ => pg_name (i := 3) sc__law_word.nd rfl (Or.inl rfl)) (fun _ _ _ _ _ => pe_var rfl (Or.inl rfl)) (pe_isW h rfl T.isinstance rfl (Or.inl rfl) rfl (.blt rfl T.ValueError (by decide +kernel)) T.v_BadHouse) (pss_one (ps_ret pe_str)) (by decide)) (pss_cons (sw_words (H0 := H) (n := 4) (i := 1) (j := 2) sc__law_word.nd (pa_strC (pa_strC (pa_strC (pa_strC (pa_strC (pa_strC (pa_strC pa_strN))))))) rfl (Or.inl rfl) (by decide) (by decide) (by decide) (by decide)) (pss_one (sw_ret (p := p) (H0 := H) (n := 4) (i := 1) (j := 2) (m := 0) (fl := [true, false, false, false, false, false, false]) (ws := ["BadHouse", "BadProgram", "BadSight", "BadTable", "BadWeights", "NotPlain", "TooMany"]) rfl (Or.inl rfl) rfl (Or.inl rfl) rfl (fun m hm => absurd hm (by omega)) rfl))))))), fun D hD => ⟨⟨rfl, rfl, Same.refl _⟩, fun _ _ w1 => ⟨w1, fun _ _ w2 => ⟨w2, fun _ _ w3 => ⟨w3, fun _ _ w4 => ⟨w4, fun _ _ w5 => ⟨w5, hD⟩⟩⟩⟩⟩⟩⟩
    split at hwd
    · rename_i hc; subst hc; cases hwd
      have h : HeldE (L2H.cxH (L2N.CX P w) P w K mg base N__law_word "_law_word" (defScope s__law_word) f cdv A outer s H E p) p (ec 1) := ⟨List.mem_cons_self, ⟨hot.1, hot.2⟩, T.e_BadProgram, hz, hf⟩
      exact ⟨_, (pss_cons (sw_new (H0 := H) (n := 4) (i := 1) sc__law_word.nd (pa_isC (pe_isW h rfl T.isinstance rfl (Or.inl rfl) rfl (.own rfl T.m_BadHouse) T.i_BadProgram_BadHouse) (pa_isC (pe_isW h rfl T.isinstance rfl (Or.inl rfl) rfl (.own rfl T.m_BadProgram) T.i_BadProgram_BadProgram) (pa_isC (pe_isW h rfl T.isinstance rfl (Or.inl rfl) rfl (.own rfl T.m_BadSight) T.i_BadProgram_BadSight) pa_isN))) rfl (Or.inl rfl) (by decide) (by decide) (by decide)) (pss_cons (sw_more (H0 := H) (n := 4) (i := 1) sc__law_word.nd (pa_isC (pe_isW h rfl T.isinstance rfl (Or.inl rfl) rfl (.own rfl T.m_BadTable) T.i_BadProgram_BadTable) pa_isN) rfl (Or.inl rfl) (Or.inl rfl) (by decide) (by decide) (by decide)) (pss_cons (sw_more (H0 := H) (n := 4) (i := 1) sc__law_word.nd (pa_isC (pe_isW h rfl T.isinstance rfl (Or.inl rfl) rfl (.own rfl T.m_BadWeights) T.i_BadProgram_BadWeights) (pa_isC (pe_isW h rfl T.isinstance rfl (Or.inl rfl) rfl (.own rfl T.m_NotPlain) T.i_BadProgram_NotPlain) (pa_isC (pe_isW h rfl T.isinstance rfl (Or.inl rfl) rfl (.own rfl T.m_TooMany) T.i_BadProgram_TooMany) pa_isN))) rfl (Or.inl rfl) (Or.inl rfl) (by decide) (by decide) (by decide)) (pss_cons (sw_if (H0 := H) (n := 4) (i := 1) (c := 3) (own := [("flag", 3)]) h sc__law_word.nd rfl (Or.inl rfl) rfl (by decide) (by decide) (by decide) ⟨rfl, T.sum⟩ (fun _ _ _ _ _ => rfl) T.int (blkOk_by (N := N__law_word) (sc := defScope s__law_word) (by decide +kernel)) rfl (fun _ _ _ _ _ => pg_name (i := 3) sc__law_word.nd rfl (Or.inl rfl)) (fun _ _ _ _ _ => pe_var rfl (Or.inl rfl)) (pe_isW h rfl T.isinstance rfl (Or.inl rfl) rfl (.blt rfl T.ValueError (by decide +kernel)) T.v_BadProgram) (pss_one (ps_ret pe_str)) (by decide)) (pss_cons (sw_words (H0 := H) (n := 4) (i := 1) (j := 2) sc__law_word.nd (pa_strC (pa_strC (pa_strC (pa_strC (pa_strC (pa_strC (pa_strC pa_strN))))))) rfl (Or.inl rfl) (by decide) (by decide) (by decide) (by decide)) (pss_one (sw_ret (p := p) (H0 := H) (n := 4) (i := 1) (j := 2) (m := 1) (fl := [false, true, false, false, false, false, false]) (ws := ["BadHouse", "BadProgram", "BadSight", "BadTable", "BadWeights", "NotPlain", "TooMany"]) rfl (Or.inl rfl) rfl (Or.inl rfl) rfl (fun m hm => match m, hm with | 0, _ => rfl) rfl))))))), fun D hD => ⟨⟨rfl, rfl, Same.refl _⟩, fun _ _ w1 => ⟨w1, fun _ _ w2 => ⟨w2, fun _ _ w3 => ⟨w3, fun _ _ w4 => ⟨w4, fun _ _ w5 => ⟨w5, hD⟩⟩⟩⟩⟩⟩⟩
    split at hwd
    · rename_i hc; subst hc; cases hwd
      have h : HeldE (L2H.cxH (L2N.CX P w) P w K mg base N__law_word "_law_word" (defScope s__law_word) f cdv A outer s H E p) p (ec 6) := ⟨List.mem_cons_self, ⟨hot.1, hot.2⟩, T.e_TooMany, hz, hf⟩
      exact ⟨_, (pss_cons (sw_new (H0 := H) (n := 4) (i := 1) sc__law_word.nd (pa_isC (pe_isW h rfl T.isinstance rfl (Or.inl rfl) rfl (.own rfl T.m_BadHouse) T.i_TooMany_BadHouse) (pa_isC (pe_isW h rfl T.isinstance rfl (Or.inl rfl) rfl (.own rfl T.m_BadProgram) T.i_TooMany_BadProgram) (pa_isC (pe_isW h rfl T.isinstance rfl (Or.inl rfl) rfl (.own rfl T.m_BadSight) T.i_TooMany_BadSight) pa_isN))) rfl (Or.inl rfl) (by decide) (by decide) (by decide)) (pss_cons (sw_more (H0 := H) (n := 4) (i := 1) sc__law_word.nd (pa_isC (pe_isW h rfl T.isinstance rfl (Or.inl rfl) rfl (.own rfl T.m_BadTable) T.i_TooMany_BadTable) pa_isN) rfl (Or.inl rfl) (Or.inl rfl) (by decide) (by decide) (by decide)) (pss_cons (sw_more (H0 := H) (n := 4) (i := 1) sc__law_word.nd (pa_isC (pe_isW h rfl T.isinstance rfl (Or.inl rfl) rfl (.own rfl T.m_BadWeights) T.i_TooMany_BadWeights) (pa_isC (pe_isW h rfl T.isinstance rfl (Or.inl rfl) rfl (.own rfl T.m_NotPlain) T.i_TooMany_NotPlain) (pa_isC (pe_isW h rfl T.isinstance rfl (Or.inl rfl) rfl (.own rfl T.m_TooMany) T.i_TooMany_TooMany) pa_isN))) rfl (Or.inl rfl) (Or.inl rfl) (by decide) (by decide) (by decide)) (pss_cons (sw_if (H0 := H) (n := 4) (i := 1) (c := 3) (own := [("flag", 3)]) h sc__law_word.nd rfl (Or.inl rfl) rfl (by decide) (by decide) (by decide) ⟨rfl, T.sum⟩ (fun _ _ _ _ _ => rfl) T.int (blkOk_by (N := N__law_word) (sc := defScope s__law_word) (by decide +kernel)) rfl (fun _ _ _ _ _ => pg_name (i := 3) sc__law_word.nd rfl (Or.inl rfl)) (fun _ _ _ _ _ => pe_var rfl (Or.inl rfl)) (pe_isW h rfl T.isinstance rfl (Or.inl rfl) rfl (.blt rfl T.ValueError (by decide +kernel)) T.v_TooMany) (pss_one (ps_ret pe_str)) (by decide)) (pss_cons (sw_words (H0 := H) (n := 4) (i := 1) (j := 2) sc__law_word.nd (pa_strC (pa_strC (pa_strC (pa_strC (pa_strC (pa_strC (pa_strC pa_strN))))))) rfl (Or.inl rfl) (by decide) (by decide) (by decide) (by decide)) (pss_one (sw_ret (p := p) (H0 := H) (n := 4) (i := 1) (j := 2) (m := 6) (fl := [false, false, false, false, false, false, true]) (ws := ["BadHouse", "BadProgram", "BadSight", "BadTable", "BadWeights", "NotPlain", "TooMany"]) rfl (Or.inl rfl) rfl (Or.inl rfl) rfl (fun m hm => match m, hm with | 0, _ => rfl | 1, _ => rfl | 2, _ => rfl | 3, _ => rfl | 4, _ => rfl | 5, _ => rfl) rfl))))))), fun D hD => ⟨⟨rfl, rfl, Same.refl _⟩, fun _ _ w1 => ⟨w1, fun _ _ w2 => ⟨w2, fun _ _ w3 => ⟨w3, fun _ _ w4 => ⟨w4, fun _ _ w5 => ⟨w5, hD⟩⟩⟩⟩⟩⟩⟩
    · cases hwd
theorem sc__law_drawn : FnScope N__law_drawn ["cell", "k"] (defScope s__law_drawn) := ⟨rfl, rfl, rfl, by decide +kernel, rfl, by decide +kernel, by decide +kernel⟩
theorem ok__law_drawn {f : Addr} {fd : FuncData} (F : Fun K "_law_drawn" "_law_drawn" s__law_drawn f fd) (T : Txt K mg ec)  : FnOk P w K mg base (L2N.CX P w) 1 f fd ["cell", "k"] (spP K ec 2 g__law_drawn) :=
  by
  rw [g__law_drawn_eq]
  exact fn_pure F sc__law_drawn rfl fun cdv A outer s G0 H E i0 hr => by
    have hu := hr.units; have hu1 := hu_of hr; have hu0 := hr.units0; have hu65 := units65 hr; have hu70 := units70 hr
    exact (ss_cons (ss_set .P (i := 2) sc__law_drawn.nd (se_mod (se_add (se_mul (se_var 0) se_int) (se_mul (se_add (se_var 1) se_int) se_int)) se_int)) (ss_cons (ss_set .P (i := 2) sc__law_drawn.nd (se_mod (se_mul (se_var 2) (se_var 2)) se_int)) (ss_cons (ss_set .P (i := 2) sc__law_drawn.nd (se_mul (se_mul (se_add (se_mod (se_var 2) se_int) se_int) (se_add (se_div (se_var 2) se_int) se_int)) (se_var 2))) (ss_one (ss_ret (se_mod (se_var 2) se_int))))))
theorem sc__law_cell : FnScope N__law_cell ["script", "k"] (defScope s__law_cell) := ⟨rfl, rfl, rfl, by decide +kernel, rfl, by decide +kernel, by decide +kernel⟩
theorem ok__law_cell {f : Addr} {fd : FuncData} (F : Fun K "_law_cell" "_law_cell" s__law_cell f fd) (T : Txt K mg ec)  : FnOk P w K mg base (L2N.CX P w) 1 f fd ["script", "k"] (spP K ec 2 g__law_cell) :=
  by
  rw [g__law_cell_eq]
  exact fn_pure F sc__law_cell rfl fun cdv A outer s G0 H E i0 hr => by
    have hu := hr.units; have hu1 := hu_of hr; have hu0 := hr.units0; have hu65 := units65 hr; have hu70 := units70 hr
    exact (ss_cons (ss_if (st_eq hu (se_var 0) (se_new (sn_lst sa_nil))) (ss_one (ss_ret (se_mul (se_var 1) se_int))) ss_nil) (ss_one (ss_ret (se_add (se_at (se_var 0) (se_mod (se_var 1) (se_len rfl T.len (sa_cons (se_var 0) sa_nil)))) (se_mul (se_div (se_var 1) (se_len rfl T.len (sa_cons (se_var 0) sa_nil))) se_int)))))
theorem sc_is_name : FnScope N_is_name ["thing"] (defScope s_is_name) := ⟨rfl, rfl, rfl, by decide +kernel, rfl, by decide +kernel, by decide +kernel⟩
theorem ok_is_name {f : Addr} {fd : FuncData} (F : Fun K "is_name" "is_name" s_is_name f fd) (T : Txt K mg ec)  : FnOk P w K mg base (L2N.CX P w) 1 f fd ["thing"] (spP K ec 1 g_is_name) :=
  by
  rw [g_is_name_eq]
  exact fn_pure F sc_is_name rfl fun cdv A outer s G0 H E i0 hr => by
    have hu := hr.units; have hu1 := hu_of hr; have hu0 := hr.units0; have hu65 := units65 hr; have hu70 := units70 hr
    exact (ss_cons (ss_if (PW.pt (sw_or (st_not (st_val (se_isi rfl T.isinstance (se_var 0) rfl T.str (by decide +kernel)))) (sw_or1 (st_not (st_lele se_int (se_len rfl T.len (sa_cons (se_var 0) sa_nil)) (se_glob T.c_MOST_LETTERS rfl)))))) (ss_one (ss_ret se_bl)) ss_nil) (ss_one (ss_ret (se_all rfl rfl T.all (sa_cons (se_new (sn_lc (own := [("sign", 1)]) tg_name rfl rfl sc_is_name.nd (si_seq (se_var 0)) (blkOk_by (N := N_is_name) (sc := defScope s_is_name) (by decide +kernel)) (fun _ _ _ _ _ => (pg_name (i := 1) sc_is_name.nd rfl (by first | exact Or.inl rfl | exact Or.inr rfl))) (fun _ _ _ _ _ => sts_nil) (fun _ _ _ _ _ => (se_inS (se_var 1) (se_glob T.c_LETTERS rfl))))) sa_nil)))))
theorem sc_is_count : FnScope N_is_count ["thing", "least", "most"] (defScope s_is_count) := ⟨rfl, rfl, rfl, by decide +kernel, rfl, by decide +kernel, by decide +kernel⟩
theorem ok_is_count {f : Addr} {fd : FuncData} (F : Fun K "is_count" "is_count" s_is_count f fd) (T : Txt K mg ec)  : FnOk P w K mg base (L2N.CX P w) 1 f fd ["thing", "least", "most"] (spP K ec 3 g_is_count) :=
  by
  rw [g_is_count_eq]
  exact fn_pure F sc_is_count rfl fun cdv A outer s G0 H E i0 hr => by
    have hu := hr.units; have hu1 := hu_of hr; have hu0 := hr.units0; have hu65 := units65 hr; have hu70 := units70 hr
    exact (ss_one (ss_ret (se_and (se_isi rfl T.isinstance (se_var 0) rfl T.int (by decide +kernel)) (se_and (se_not (se_isi rfl T.isinstance (se_var 0) rfl T.bool (by decide +kernel))) (se_one (se_lele (se_var 1) (se_var 0) (se_var 2)))))))
theorem sc_is_room : FnScope N_is_room ["thing"] (defScope s_is_room) := ⟨rfl, rfl, rfl, by decide +kernel, rfl, by decide +kernel, by decide +kernel⟩
theorem ok_is_room {f : Addr} {fd : FuncData} (F : Fun K "is_room" "is_room" s_is_room f fd) (T : Txt K mg ec) (C_is_count : Cal P w K mg base ec "is_count" 3 1 g_is_count) (C_is_name : Cal P w K mg base ec "is_name" 1 1 g_is_name) : FnOk P w K mg base (L2N.CX P w) 2 f fd ["thing"] (spP K ec 1 g_is_room) :=
  by
  rw [g_is_room_eq]
  exact fn_pure F sc_is_room rfl fun cdv A outer s G0 H E i0 hr => by
    have hu := hr.units; have hu1 := hu_of hr; have hu0 := hr.units0; have hu65 := units65 hr; have hu70 := units70 hr
    exact (ss_one (ss_ret (se_and (se_isi rfl T.isinstance (se_var 0) rfl T.tuple (by decide +kernel)) (se_and (se_eq hu (se_len rfl T.len (sa_cons (se_var 0) sa_nil)) se_int) (se_and (se_call C_is_name tk_cx (hr.mono (by decide)) rfl (sa_cons (se_at (se_var 0) se_int) sa_nil)) (se_one (se_call C_is_count tk_cx (hr.mono (by decide)) rfl (sa_cons (se_at (se_var 0) se_int) (sa_cons se_int (sa_cons (se_glob T.c_MOST_SIZE rfl) sa_nil))))))))))
theorem sc_need_house : FnScope N_need_house ["house"] (defScope s_need_house) := ⟨rfl, rfl, rfl, by decide +kernel, rfl, by decide +kernel, by decide +kernel⟩
theorem ok_need_house {f : Addr} {fd : FuncData} (F : Fun K "need_house" "need_house" s_need_house f fd) (T : Txt K mg ec) (C_is_room : Cal P w K mg base ec "is_room" 1 2 g_is_room) : FnOk P w K mg base (L2N.CX P w) 3 f fd ["house"] (spP K ec 1 g_need_house) :=
  by
  rw [g_need_house_eq]
  exact fn_pure F sc_need_house rfl fun cdv A outer s G0 H E i0 hr => by
    have hu := hr.units; have hu1 := hu_of hr; have hu0 := hr.units0; have hu65 := units65 hr; have hu70 := units70 hr
    exact (ss_cons (ss_if (PW.pt (sw_or (st_not (st_val (se_isi rfl T.isinstance (se_var 0) rfl T.list (by decide +kernel)))) (sw_or (st_not (st_lele se_int (se_len rfl T.len (sa_cons (se_var 0) sa_nil)) (se_glob T.c_MOST_NAMES rfl))) (sw_or1 (st_not (st_val (se_all rfl rfl T.all (sa_cons (se_new (sn_lc (own := [("one", 4)]) tg_name rfl rfl sc_need_house.nd (si_seq (se_var 0)) (blkOk_by (N := N_need_house) (sc := defScope s_need_house) (by decide +kernel)) (fun _ _ _ _ _ => (pg_name (i := 4) sc_need_house.nd rfl (by first | exact Or.inl rfl | exact Or.inr rfl))) (fun _ _ _ _ _ => sts_nil) (fun _ _ _ _ _ => (se_call C_is_room takes0N (hr.mono (by decide)) rfl (sa_cons (se_var 4) sa_nil))))) sa_nil)))))))) (ss_one (ss_raise T.x_BadHouse tk_cx rfl)) ss_nil) (ss_cons (ss_set .P (i := 1) sc_need_house.nd se_int) (ss_cons (ss_for hp_cx rfl (si_seq (se_var 0)) (sg_tup rfl (sn_cons (i := 2) sc_need_house.nd (sn_cons (i := 3) sc_need_house.nd sn_nil))) (ss_one (ss_set .P (i := 1) sc_need_house.nd (se_mul (se_var 1) (se_var 3))))) (ss_cons (ss_for hp_cx rfl (si_zip rfl T.zip (sa_cons (se_var 0) (sa_cons (se_sl (se_var 0) (so_some se_int) so_none) sa_nil))) (sg_tup rfl (sn_cons (i := 4) sc_need_house.nd (sn_cons (i := 5) sc_need_house.nd sn_nil))) (ss_one (ss_if (st_geS (se_at (se_var 4) se_int) (se_at (se_var 5) se_int)) (ss_one (ss_raise T.x_BadHouse tk_cx rfl)) ss_nil))) (ss_one (ss_if (st_gt (se_var 1) (se_glob T.c_MOST_BEGINNINGS rfl)) (ss_one (ss_raise T.x_BadHouse tk_cx rfl)) ss_nil))))))
theorem sc_Count_need : FnScope N_Count_need ["self", "good"] (defScope s_Count_need) := ⟨rfl, rfl, rfl, by decide +kernel, rfl, by decide +kernel, by decide +kernel⟩
theorem ok_Count_need {f : Addr} {fd : FuncData} (F : Fun K "need" "Count.need" s_Count_need f fd) (T : Txt K mg ec)  : FnOk P w K mg base (L2N.CX P w) 1 f fd ["self", "good"] (spO K ec 2 g_Count_need) :=
  by
  rw [g_Count_need_eq]
  exact fn_ob F sc_Count_need rfl (by decide) fun cdv A outer s G0 H H0 E hr => by
    have hu := hr.units; have hu1 := hu_of hr; have hu0 := hr.units0; have hu65 := units65 hr; have hu70 := units70 hr
    exact (ss_one (ss_if (st_not (st_val (se_var 1))) (ss_one (ss_raise T.x_BadProgram tk_cx rfl)) ss_nil))
theorem sc_Count_enter : FnScope N_Count_enter ["self", "deep"] (defScope s_Count_enter) := ⟨rfl, rfl, rfl, by decide +kernel, rfl, by decide +kernel, by decide +kernel⟩
theorem ok_Count_enter {f : Addr} {fd : FuncData} (F : Fun K "enter" "Count.enter" s_Count_enter f fd) (Cc : CntC K "Count") {t1 t2 : Tok} (hm1 : mg "MOST_THINGS" = some (.int 800 t1)) (hm2 : mg "MOST_WITHIN" = some (.int 12 t2)) (M_Count_need : CalM P w K mg base ec "Count" "need" 2 1 g_Count_need) : FnOk P w K mg base (L2N.CX P w) 2 f fd ["self", "deep"] (spO K ec 2 g_Count_enter) := by
  rw [g_Count_enter_eq]
  exact fn_enter (x := "MOST_THINGS") (y := "MOST_WITHIN") F sc_Count_enter Cc M_Count_need hm1 hm2 fun C fn fdn psn cdv A outer s H E c hm Fn hb hr => pss_cons (ps_fld (pe_var rfl (Or.inl rfl)) (pe_add (pe_fld (pe_var rfl (Or.inl rfl)) rfl) pe_int) rfl) (pss_one (ps_expr (pe_methW (pe_var rfl (Or.inl rfl)) c hm Fn hr hb (fun σ => L2N.passAt tk_cx σ) (pa_cons (pe_and (pe_cmpR op_le (pe_fld (pe_var rfl (Or.inl rfl)) rfl) (pe_glob rfl hm1 ⟨_, rfl⟩) (nomark _)) (pe_one (pe_cmpR op_le (pe_var rfl (Or.inl rfl)) (pe_glob rfl hm2 ⟨_, rfl⟩) (nomark _)))) pa_nil))))
theorem sc_is_form : FnScope N_is_form ["thing", "size"] (defScope s_is_form) := ⟨rfl, rfl, rfl, by decide +kernel, rfl, by decide +kernel, by decide +kernel⟩
theorem ok_is_form {f : Addr} {fd : FuncData} (F : Fun K "is_form" "is_form" s_is_form f fd) (T : Txt K mg ec)  : FnOk P w K mg base (L2N.CX P w) 1 f fd ["thing", "size"] (spP K ec 2 g_is_form) :=
  by
  rw [g_is_form_eq]
  exact fn_pure F sc_is_form rfl fun cdv A outer s G0 H E i0 hr => by
    have hu := hr.units; have hu1 := hu_of hr; have hu0 := hr.units0; have hu65 := units65 hr; have hu70 := units70 hr
    exact (ss_one (ss_ret (se_and (se_isi rfl T.isinstance (se_var 0) rfl T.tuple (by decide +kernel)) (se_and (se_eq hu (se_len rfl T.len (sa_cons (se_var 0) sa_nil)) (se_var 1)) (se_one (se_isi rfl T.isinstance (se_at (se_var 0) se_int) rfl T.str (by decide +kernel)))))))
theorem sc_Count_term : FnScope N_Count_term ["self", "thing", "deep"] (defScope s_Count_term) := ⟨rfl, rfl, rfl, by decide +kernel, rfl, by decide +kernel, by decide +kernel⟩
theorem ok_Count_term {C : Addr} (hC : PySem.W.nsIn K mainGlobals "Count" = some (some (.ref C))) (hcl : Cls K C) {f_Count_term : Addr} {fd_Count_term : FuncData} (F_Count_term : Fun K "term" "Count.term" s_Count_term f_Count_term fd_Count_term) (mt_Count_term : Meth K C "term" f_Count_term) (b_Count_term : Binds K fd_Count_term ["self", "thing", "deep"] []) (T : Txt K mg ec) (M_Count_enter : CalM P w K mg base ec "Count" "enter" 2 2 g_Count_enter) (M_Count_need : CalM P w K mg base ec "Count" "need" 2 1 g_Count_need) (C_is_count : Cal P w K mg base ec "is_count" 3 1 g_is_count) (C_is_form : Cal P w K mg base ec "is_form" 2 1 g_is_form) (C_is_name : Cal P w K mg base ec "is_name" 1 1 g_is_name) (n : Nat) : FnOk P w K mg base (L2N.CX P w) (2 + n) f_Count_term fd_Count_term ["self", "thing", "deep"] (spO K ec 3 (g_Count_term n)) := by
  induction n with
  | zero => rw [g_Count_term_z]; exact fn_noO rfl fun _ _ => rfl
  | succ n ih =>
    have ih_Count_term := ih
    have M_Count_term : CalM P w K mg base ec "Count" "term" 3 (2 + n) (g_Count_term n) := ⟨C, f_Count_term, fd_Count_term, ["self", "thing", "deep"], hC, hcl, mt_Count_term, ih_Count_term, b_Count_term⟩
    rw [g_Count_term_s]
    exact fn_ob (k := 2 + n) F_Count_term sc_Count_term rfl (by decide) fun cdv A outer s G0 H H0 E hr => by
      have hu := hr.units; have hu1 := hu_of hr; have hu0 := hr.units0; have hu65 := units65 hr; have hu70 := units70 hr
      exact (ss_cons (ss_mcall (i := 0) M_Count_enter tk_cx (hr.mono (by omega)) (sa_cons (se_var 2) sa_nil)) (ss_one (ss_if (PW.pt (sw_and (st_val (se_call C_is_form tk_cx (hr.mono (by omega)) rfl (sa_cons (se_var 1) (sa_cons se_int sa_nil)))) (sw_and1 (st_eq hu (se_at (se_var 1) se_int) se_str)))) (ss_one (ss_mcall (i := 0) M_Count_need tk_cx (hr.mono (by omega)) (sa_cons (se_call C_is_count tk_cx (hr.mono (by omega)) rfl (sa_cons (se_at (se_var 1) se_int) (sa_cons se_int (sa_cons (se_glob T.c_MOST_NUMBER rfl) sa_nil)))) sa_nil))) (ss_one (ss_if (st_val (se_call C_is_form tk_cx (hr.mono (by omega)) rfl (sa_cons (se_var 1) (sa_cons se_int sa_nil)))) (ss_one (ss_mcall (i := 0) M_Count_need tk_cx (hr.mono (by omega)) (sa_cons (se_and (se_eq hu (se_at (se_var 1) se_int) se_str) (se_one (se_call C_is_name tk_cx (hr.mono (by omega)) rfl (sa_cons (se_at (se_var 1) se_int) sa_nil)))) sa_nil))) (ss_cons (ss_mcall (i := 0) M_Count_need tk_cx (hr.mono (by omega)) (sa_cons (se_and (se_call C_is_form tk_cx (hr.mono (by omega)) rfl (sa_cons (se_var 1) (sa_cons se_int sa_nil))) (se_one (se_in hu65 (se_at (se_var 1) se_int) (se_glob T.c_TWOS rfl)))) sa_nil)) (ss_cons (ss_mcall (i := 0) M_Count_term tk_cx (hr.mono (by omega)) (sa_cons (se_at (se_var 1) se_int) (sa_cons (se_add (se_var 2) se_int) sa_nil))) (ss_one (ss_mcall (i := 0) M_Count_term tk_cx (hr.mono (by omega)) (sa_cons (se_at (se_var 1) se_int) (sa_cons (se_add (se_var 2) se_int) sa_nil)))))))))))
theorem sc_Count_third : FnScope N_Count_third ["self", "thing", "deep"] (defScope s_Count_third) := ⟨rfl, rfl, rfl, by decide +kernel, rfl, by decide +kernel, by decide +kernel⟩
theorem sc_Count_deed : FnScope N_Count_deed ["self", "thing", "deep"] (defScope s_Count_deed) := ⟨rfl, rfl, rfl, by decide +kernel, rfl, by decide +kernel, by decide +kernel⟩
theorem sc_Count_block : FnScope N_Count_block ["self", "thing", "deep"] (defScope s_Count_block) := ⟨rfl, rfl, rfl, by decide +kernel, rfl, by decide +kernel, by decide +kernel⟩
theorem ok_Count_block {C : Addr} (hC : PySem.W.nsIn K mainGlobals "Count" = some (some (.ref C))) (hcl : Cls K C) {f_Count_block : Addr} {fd_Count_block : FuncData} (F_Count_block : Fun K "block" "Count.block" s_Count_block f_Count_block fd_Count_block) (mt_Count_block : Meth K C "block" f_Count_block) (b_Count_block : Binds K fd_Count_block ["self", "thing", "deep"] []) {f_Count_deed : Addr} {fd_Count_deed : FuncData} (F_Count_deed : Fun K "deed" "Count.deed" s_Count_deed f_Count_deed fd_Count_deed) (mt_Count_deed : Meth K C "deed" f_Count_deed) (b_Count_deed : Binds K fd_Count_deed ["self", "thing", "deep"] []) {f_Count_third : Addr} {fd_Count_third : FuncData} (F_Count_third : Fun K "third" "Count.third" s_Count_third f_Count_third fd_Count_third) (mt_Count_third : Meth K C "third" f_Count_third) (b_Count_third : Binds K fd_Count_third ["self", "thing", "deep"] []) (T : Txt K mg ec) (M_Count_enter : CalM P w K mg base ec "Count" "enter" 2 2 g_Count_enter) (M_Count_need : CalM P w K mg base ec "Count" "need" 2 1 g_Count_need) (M_Count_term : CalM P w K mg base ec "Count" "term" 3 16 (g_Count_term 14)) (C_is_count : Cal P w K mg base ec "is_count" 3 1 g_is_count) (C_is_form : Cal P w K mg base ec "is_form" 2 1 g_is_form) (C_is_name : Cal P w K mg base ec "is_name" 1 1 g_is_name) (n : Nat) : FnOk P w K mg base (L2N.CX P w) (16 + n) f_Count_block fd_Count_block ["self", "thing", "deep"] (spO K ec 3 (g_Count_block n)) ∧ FnOk P w K mg base (L2N.CX P w) (16 + n) f_Count_deed fd_Count_deed ["self", "thing", "deep"] (spO K ec 3 (g_Count_deed n)) ∧ FnOk P w K mg base (L2N.CX P w) (16 + n) f_Count_third fd_Count_third ["self", "thing", "deep"] (spO K ec 3 (g_Count_third n)) := by
  induction n with
  | zero => exact ⟨by rw [g_Count_block_z]; exact fn_noO rfl fun _ _ => rfl, by rw [g_Count_deed_z]; exact fn_noO rfl fun _ _ => rfl, by rw [g_Count_third_z]; exact fn_noO rfl fun _ _ => rfl⟩
  | succ n ih =>
    obtain ⟨ih_Count_block, ih_Count_deed, ih_Count_third⟩ := ih
    have M_Count_block : CalM P w K mg base ec "Count" "block" 3 (16 + n) (g_Count_block n) := ⟨C, f_Count_block, fd_Count_block, ["self", "thing", "deep"], hC, hcl, mt_Count_block, ih_Count_block, b_Count_block⟩
    have M_Count_deed : CalM P w K mg base ec "Count" "deed" 3 (16 + n) (g_Count_deed n) := ⟨C, f_Count_deed, fd_Count_deed, ["self", "thing", "deep"], hC, hcl, mt_Count_deed, ih_Count_deed, b_Count_deed⟩
    have M_Count_third : CalM P w K mg base ec "Count" "third" 3 (16 + n) (g_Count_third n) := ⟨C, f_Count_third, fd_Count_third, ["self", "thing", "deep"], hC, hcl, mt_Count_third, ih_Count_third, b_Count_third⟩
    refine ⟨?_, ?_, ?_⟩
    · rw [g_Count_block_s]
      exact fn_ob (k := 16 + n) F_Count_block sc_Count_block rfl (by decide) fun cdv A outer s G0 H H0 E hr => by
        have hu := hr.units; have hu1 := hu_of hr; have hu0 := hr.units0; have hu65 := units65 hr; have hu70 := units70 hr
        exact (ss_cons (ss_mcall (i := 0) M_Count_need tk_cx (hr.mono (by omega)) (sa_cons (se_isi rfl T.isinstance (se_var 1) rfl T.tuple (by decide +kernel)) sa_nil)) (ss_one (ss_for hp_cx rfl (si_seq (se_var 1)) (sg_name (i := 3) sc_Count_block.nd) (ss_one (ss_mcall (i := 0) M_Count_deed tk_cx (hr.mono (by omega)) (sa_cons (se_var 3) (sa_cons (se_var 2) sa_nil)))))))
    · rw [g_Count_deed_s]
      exact fn_ob (k := 16 + n) F_Count_deed sc_Count_deed rfl (by decide) fun cdv A outer s G0 H H0 E hr => by
        have hu := hr.units; have hu1 := hu_of hr; have hu0 := hr.units0; have hu65 := units65 hr; have hu70 := units70 hr
        exact (ss_cons (ss_mcall (i := 0) M_Count_enter tk_cx (hr.mono (by omega)) (sa_cons (se_var 2) sa_nil)) (ss_one (ss_if (st_val (se_call C_is_form tk_cx (hr.mono (by omega)) rfl (sa_cons (se_var 1) (sa_cons se_int sa_nil)))) (ss_cons (ss_mcall (i := 0) M_Count_need tk_cx (hr.mono (by omega)) (sa_cons (se_eq hu (se_at (se_var 1) se_int) se_str) sa_nil)) (ss_one (ss_mcall (i := 0) M_Count_term tk_cx (hr.mono (by omega)) (sa_cons (se_at (se_var 1) se_int) (sa_cons (se_add (se_var 2) se_int) sa_nil))))) (ss_one (ss_if (st_val (se_call C_is_form tk_cx (hr.mono (by omega)) rfl (sa_cons (se_var 1) (sa_cons se_int sa_nil)))) (ss_cons (ss_mcall (i := 0) M_Count_need tk_cx (hr.mono (by omega)) (sa_cons (se_eq hu (se_at (se_var 1) se_int) se_str) sa_nil)) (ss_cons (ss_mcall (i := 0) M_Count_term tk_cx (hr.mono (by omega)) (sa_cons (se_at (se_var 1) se_int) (sa_cons (se_add (se_var 2) se_int) sa_nil))) (ss_cons (ss_mcall (i := 0) M_Count_block tk_cx (hr.mono (by omega)) (sa_cons (se_at (se_var 1) se_int) (sa_cons (se_add (se_var 2) se_int) sa_nil))) (ss_one (ss_mcall (i := 0) M_Count_block tk_cx (hr.mono (by omega)) (sa_cons (se_at (se_var 1) se_int) (sa_cons (se_add (se_var 2) se_int) sa_nil))))))) (ss_cons (ss_mcall (i := 0) M_Count_need tk_cx (hr.mono (by omega)) (sa_cons (se_and (se_call C_is_form tk_cx (hr.mono (by omega)) rfl (sa_cons (se_var 1) (sa_cons se_int sa_nil))) (se_one (se_in hu65 (se_at (se_var 1) se_int) (se_tup (sa_cons se_str (sa_cons se_str (sa_cons se_str sa_nil))))))) sa_nil)) (ss_one (ss_mcall (i := 0) M_Count_third tk_cx (hr.mono (by omega)) (sa_cons (se_var 1) (sa_cons (se_var 2) sa_nil))))))))))
    · rw [g_Count_third_s]
      exact fn_ob (k := 16 + n) F_Count_third sc_Count_third rfl (by decide) fun cdv A outer s G0 H H0 E hr => by
        have hu := hr.units; have hu1 := hu_of hr; have hu0 := hr.units0; have hu65 := units65 hr; have hu70 := units70 hr
        exact (ss_one (ss_if (st_eq hu (se_at (se_var 1) se_int) se_str) (ss_cons (ss_mcall (i := 0) M_Count_need tk_cx (hr.mono (by omega)) (sa_cons (se_call C_is_name tk_cx (hr.mono (by omega)) rfl (sa_cons (se_at (se_var 1) se_int) sa_nil)) sa_nil)) (ss_one (ss_mcall (i := 0) M_Count_term tk_cx (hr.mono (by omega)) (sa_cons (se_at (se_var 1) se_int) (sa_cons (se_add (se_var 2) se_int) sa_nil))))) (ss_one (ss_if (st_eq hu (se_at (se_var 1) se_int) se_str) (ss_cons (ss_mcall (i := 0) M_Count_need tk_cx (hr.mono (by omega)) (sa_cons (se_call C_is_count tk_cx (hr.mono (by omega)) rfl (sa_cons (se_at (se_var 1) se_int) (sa_cons se_int (sa_cons (se_glob T.c_MOST_TIMES rfl) sa_nil)))) sa_nil)) (ss_one (ss_mcall (i := 0) M_Count_block tk_cx (hr.mono (by omega)) (sa_cons (se_at (se_var 1) se_int) (sa_cons (se_add (se_var 2) se_int) sa_nil))))) (ss_one (ss_mcall (i := 0) M_Count_need tk_cx (hr.mono (by omega)) (sa_cons (se_and (se_call C_is_name tk_cx (hr.mono (by omega)) rfl (sa_cons (se_at (se_var 1) se_int) sa_nil)) (se_one (se_call C_is_count tk_cx (hr.mono (by omega)) rfl (sa_cons (se_at (se_var 1) se_int) (sa_cons se_int (sa_cons (se_glob T.c_MOST_TIMES rfl) sa_nil)))))) sa_nil)))))))
theorem sc_Count___init__ : FnScope N_Count___init__ ["self"] (defScope s_Count___init__) := ⟨rfl, rfl, rfl, by decide +kernel, rfl, by decide +kernel, by decide +kernel⟩
theorem ok_Count___init__ {f : Addr} {fd : FuncData} (F : Fun K "__init__" "Count.__init__" s_Count___init__ f fd) (Cc : CntC K "Count") : FnOk P w K mg base (L2N.CX P w) 1 f fd ["self"] (spInit K "Count") := fn_init F sc_Count___init__ Cc fun cdv A outer s H E => pss_one (ps_fld (pe_var rfl (Or.inl rfl)) pe_int rfl)
theorem sc_need_program : FnScope N_need_program ["program"] (defScope s_need_program) := ⟨rfl, rfl, rfl, by decide +kernel, rfl, by decide +kernel, by decide +kernel⟩
theorem ok_need_program {f : Addr} {fd : FuncData} (F : Fun K "need_program" "need_program" s_need_program f fd) (T : Txt K mg ec) (I_Count : InitC P w K mg base "Count" 1) (M_Count_block : CalM P w K mg base ec "Count" "block" 3 58 (g_Count_block 42)) : FnOk P w K mg base (L2N.CX P w) 60 f fd ["program"] (spP K ec 1 g_need_program) :=
  by
  rw [g_need_program_eq]
  exact fn_pure F sc_need_program rfl fun cdv A outer s G0 H E i0 hr => by
    have hu := hr.units; have hu1 := hu_of hr; have hu0 := hr.units0; have hu65 := units65 hr; have hu70 := units70 hr
    exact (ss_one (ss_newI M_Count_block I_Count (by decide) tk_cx (hr.mono (by decide)) rfl rfl (sa_cons (se_var 0) (sa_cons se_int sa_nil))))
theorem sc_worth : FnScope N_worth ["term", "names"] (defScope s_worth) := ⟨rfl, rfl, rfl, by decide +kernel, rfl, by decide +kernel, by decide +kernel⟩
theorem ok_worth {f_worth : Addr} {fd_worth : FuncData} (F_worth : Fun K "worth" "worth" s_worth f_worth fd_worth) (m_worth : mg "worth" = some (.ref f_worth)) (b_worth : Binds K fd_worth ["term", "names"] []) (T : Txt K mg ec)  (n : Nat) : FnOk P w K mg base (L2N.CX P w) (0 + n) f_worth fd_worth ["term", "names"] (spP K ec 2 (g_worth n)) := by
  induction n with
  | zero => rw [g_worth_z]; exact fn_no rfl fun _ => rfl
  | succ n ih =>
    have ih_worth := ih
    have C_worth : Cal P w K mg base ec "worth" 2 (0 + n) (g_worth n) := cal_of F_worth m_worth b_worth ih_worth
    rw [g_worth_s]
    exact fn_pure (k := 0 + n) F_worth sc_worth rfl fun cdv A outer s G0 H E i0 hr => by
      have hu := hr.units; have hu1 := hu_of hr; have hu0 := hr.units0; have hu65 := units65 hr; have hu70 := units70 hr
      exact (ss_cons (ss_set .P (i := 2) sc_worth.nd (se_at (se_var 0) se_int)) (ss_cons (ss_if (st_eq hu (se_var 2) se_str) (ss_one (ss_ret (se_at (se_var 0) se_int))) ss_nil) (ss_cons (ss_if (st_eq hu (se_var 2) se_str) (ss_one (ss_ret (se_get2 hu1 (se_var 1) (se_at (se_var 0) se_int) se_int))) ss_nil) (ss_cons (ss_set .P (i := 3) sc_worth.nd (se_call C_worth tk_cx (hr.mono (by omega)) rfl (sa_cons (se_at (se_var 0) se_int) (sa_cons (se_var 1) sa_nil)))) (ss_cons (ss_set .P (i := 4) sc_worth.nd (se_call C_worth tk_cx (hr.mono (by omega)) rfl (sa_cons (se_at (se_var 0) se_int) (sa_cons (se_var 1) sa_nil)))) (ss_cons (ss_if (st_eq hu (se_var 2) se_str) (ss_one (ss_ret (se_mod (se_add (se_var 3) (se_var 4)) (se_glob T.c_REST rfl)))) ss_nil) (ss_cons (ss_if (st_eq hu (se_var 2) se_str) (ss_one (ss_ret (se_mod (se_sub (se_var 3) (se_var 4)) (se_glob T.c_REST rfl)))) ss_nil) (ss_cons (ss_if (st_eq hu (se_var 2) se_str) (ss_one (ss_ret (se_mod (se_mul (se_var 3) (se_var 4)) (se_glob T.c_REST rfl)))) ss_nil) (ss_cons (ss_if (st_eq hu (se_var 2) se_str) (ss_one (ss_ret (se_intc rfl T.int (sa_cons (se_eq hu (se_var 3) (se_var 4)) sa_nil)))) ss_nil) (ss_one (ss_ret (se_intc rfl T.int (sa_cons (se_lt (se_var 3) (se_var 4)) sa_nil)))))))))))))
theorem sc_Way___init__ : FnScope N_Way___init__ ["self", "names", "trail", "steps", "share"] (defScope s_Way___init__) := ⟨rfl, rfl, rfl, by decide +kernel, rfl, by decide +kernel, by decide +kernel⟩
theorem ok_Way___init__ {f : Addr} {fd : FuncData} {C : Addr} (Wc : WayC K C) (F : Fun K "__init__" "Way.__init__" s_Way___init__ f fd) : FnOk P w K mg base (L2N.CX P w) 1 f fd psWay (spWi C) := fn_winit F sc_Way___init__ rfl Wc fun cdv A outer s H E => pss_cons (ps_fld (pvr 0) (pvr 1) rfl) (pss_cons (ps_fld (pvr 0) (pvr 2) rfl) (pss_cons (ps_fld (pvr 0) (pvr 3) rfl) (pss_one (ps_fld (pvr 0) (pvr 4) rfl))))
theorem sc_common : FnScope N_common ["one", "other"] (defScope s_common) := ⟨rfl, rfl, rfl, by decide +kernel, rfl, by decide +kernel, by decide +kernel⟩
theorem ok_common {f : Addr} {fd : FuncData} (F : Fun K "common" "common" s_common f fd) (T : Txt K mg ec)  : FnOk P w K mg base (L2N.CX P w) 1 f fd ["one", "other"] (spP K ec 2 g_common) :=
  by
  rw [g_common_eq]
  exact fn_pure F sc_common rfl fun cdv A outer s G0 H E i0 hr => by
    have hu := hr.units; have hu1 := hu_of hr; have hu0 := hr.units0; have hu65 := units65 hr; have hu70 := units70 hr
    exact (ss_cons (ss_while fuelW hp_cx (st_gt (se_var 1) se_int) (ss_one (ss_par .P (i := 0) (j := 1) rfl sc_common.nd (sa_cons (se_var 1) (sa_cons (se_mod (se_var 0) (se_var 1)) sa_nil))))) (ss_one (ss_ret (se_var 0))))
theorem sc_fraction : FnScope N_fraction ["top", "under"] (defScope s_fraction) := ⟨rfl, rfl, rfl, by decide +kernel, rfl, by decide +kernel, by decide +kernel⟩
theorem ok_fraction {f : Addr} {fd : FuncData} (F : Fun K "fraction" "fraction" s_fraction f fd) (T : Txt K mg ec) (C_common : Cal P w K mg base ec "common" 2 1 g_common) : FnOk P w K mg base (L2N.CX P w) 2 f fd ["top", "under"] (spP K ec 2 g_fraction) :=
  by
  rw [g_fraction_eq]
  exact fn_pure F sc_fraction rfl fun cdv A outer s G0 H E i0 hr => by
    have hu := hr.units; have hu1 := hu_of hr; have hu0 := hr.units0; have hu65 := units65 hr; have hu70 := units70 hr
    exact (ss_cons (ss_set .P (i := 2) sc_fraction.nd (se_call C_common tk_cx (hr.mono (by decide)) rfl (sa_cons (se_abs rfl T.abs (sa_cons (se_var 0) sa_nil)) (sa_cons (se_var 1) sa_nil)))) (ss_one (ss_ret (se_tup (sa_cons (se_div (se_var 0) (se_var 2)) (sa_cons (se_div (se_var 1) (se_var 2)) sa_nil))))))
theorem sc_times : FnScope N_times ["one", "other"] (defScope s_times) := ⟨rfl, rfl, rfl, by decide +kernel, rfl, by decide +kernel, by decide +kernel⟩
theorem ok_times {f : Addr} {fd : FuncData} (F : Fun K "times" "times" s_times f fd) (T : Txt K mg ec) (C_fraction : Cal P w K mg base ec "fraction" 2 2 g_fraction) : FnOk P w K mg base (L2N.CX P w) 3 f fd ["one", "other"] (spP K ec 2 g_times) :=
  by
  rw [g_times_eq]
  exact fn_pure F sc_times rfl fun cdv A outer s G0 H E i0 hr => by
    have hu := hr.units; have hu1 := hu_of hr; have hu0 := hr.units0; have hu65 := units65 hr; have hu70 := units70 hr
    exact (ss_one (ss_ret (se_call C_fraction tk_cx (hr.mono (by decide)) rfl (sa_cons (se_mul (se_at (se_var 0) se_int) (se_at (se_var 1) se_int)) (sa_cons (se_mul (se_at (se_var 0) se_int) (se_at (se_var 1) se_int)) sa_nil)))))
theorem sc_Way_drawn : FnScope N_Way_drawn ["self", "name", "number", "many"] (defScope s_Way_drawn) := ⟨rfl, rfl, rfl, by decide +kernel, rfl, by decide +kernel, by decide +kernel⟩
theorem ok_Way_drawn {f : Addr} {fd : FuncData} {C : Addr} (Wc : WayC K C) (F : Fun K "drawn" "Way.drawn" s_Way_drawn f fd) (T : Txt K mg ec) (Wi : WayI P w K mg base C) (C_times : Cal P w K mg base ec "times" 2 3 g_times) : FnOk P w K mg base (L2N.CX P w) 5 f fd ["self", "name", "number", "many"] (spDr K g_times) := by
  obtain ⟨fi, fdi, mk, Fi, bi, mgi⟩ := Wi.ex
  exact fn_drawn (ec := ec) F sc_Way_drawn rfl rfl Wc fun cdv A outer s H E hr => by
    have hu := hr.units; have hu1 := hu_of hr; have hu0 := hr.units0; have hu65 := units65 hr; have hu70 := units70 hr
    exact pss_cons (ps_asg (pe_callTy call_dictC rfl T.dict (by decide +kernel) (pa_cons (pe_fld (pvr 0) rfl) pa_nil)) (pg_name (i := 4) sc_Way_drawn.nd rfl (Or.inl rfl))) (pss_cons (ps_dput hu1 (pvr 4) (pvr 1) (pvr 2) rfl) (pss_one (ps_ret (pe_make mk Fi (hr.mono (by decide)) rfl mgi bi .nil (fun pins σ H s e s' I h => L2N.passAt tk_cx σ pins H s e s' I h) (pa_cons (pvr 4) (pa_cons (pe_fld (pvr 0) rfl) (pa_cons (pe_fld (pvr 0) rfl) (pa_cons (pe_calP C_times tk_cx (hr.mono (by decide)) rfl (pa_cons (pe_fld (pvr 0) rfl) (pa_cons (pe_tup (pa_cons pe_int (pa_cons (pvr 3) pa_nil))) pa_nil))) pa_nil))))))))
theorem sc_after_deed : FnScope N_after_deed ["ways", "deed"] (defScope s_after_deed) := ⟨rfl, rfl, rfl, by decide +kernel, rfl, by decide +kernel, by decide +kernel⟩
theorem sc_after : FnScope N_after ["ways", "block"] (defScope s_after) := ⟨rfl, rfl, rfl, by decide +kernel, rfl, by decide +kernel, by decide +kernel⟩
theorem ok_after {C : Addr} (Wc : WayC K C) {f_after : Addr} {fd_after : FuncData} (F_after : Fun K "after" "after" s_after f_after fd_after) (m_after : mg "after" = some (.ref f_after)) (b_after : Binds K fd_after ["ways", "block"] []) {f_after_deed : Addr} {fd_after_deed : FuncData} (F_after_deed : Fun K "after_deed" "after_deed" s_after_deed f_after_deed fd_after_deed) (m_after_deed : mg "after_deed" = some (.ref f_after_deed)) (b_after_deed : Binds K fd_after_deed ["ways", "deed"] []) (T : Txt K mg ec) (C_worth : Cal P w K mg base ec "worth" 2 14 (g_worth 14)) (Dr : DrM P w K mg base C 5 g_times) (n : Nat) : FnOk P w K mg base (L2N.CX P w) (14 + n) f_after fd_after ["ways", "block"] (spW K ec (g_after n)) ∧ FnOk P w K mg base (L2N.CX P w) (14 + n) f_after_deed fd_after_deed ["ways", "deed"] (spW K ec (g_after_deed n)) := by
  obtain ⟨f_dr, fd_dr, ps_dr, mt_dr, F_dr, b_dr⟩ := Dr.ex
  obtain ⟨t_mw, m_mw⟩ := globD_int_of T.c_MOST_WAYS
  induction n with
  | zero => exact ⟨by rw [g_after_z]; exact fn_noW rfl fun _ _ => rfl, by rw [g_after_deed_z]; exact fn_noW rfl fun _ _ => rfl⟩
  | succ n ih =>
    obtain ⟨ih1, ih2⟩ := ih
    have C_after : CalV P w K mg base ec "after" (14 + n) (g_after n) := ⟨_, _, _, ih1, m_after, F_after.kp, b_after⟩
    have C_after_deed : CalV P w K mg base ec "after_deed" (14 + n) (g_after_deed n) := ⟨_, _, _, ih2, m_after_deed, F_after_deed.kp, b_after_deed⟩
    refine ⟨?_, ?_⟩
    · rw [g_after_s]
      exact fn_after (k := 14 + n) F_after sc_after rfl rfl fun cdv A outer s H E hr => by
        have hu := hr.units; have hu1 := hu_of hr; have hu0 := hr.units0; have hu65 := units65 hr; have hu70 := units70 hr
        exact pss_cons (ps_for hp_cx rfl (si_seq (se_var 1)) (pg_name (i := 2) sc_after.nd rfl (Or.inl rfl)) (pss_one (ps_asg (pe_calV C_after_deed tk_cx (hr.mono (by omega)) rfl (pa_cons (pvr 0) (pa_cons (pvr 2) pa_nil))) (pg_name (i := 0) sc_after.nd rfl (Or.inl rfl))))) (pss_one (ps_ret (pvr 0)))
    · rw [g_after_deed_s]
      exact fn_deed (k := 14 + n) (C := C) F_after_deed sc_after_deed rfl rfl Wc fun cdv A outer s H E Ga Ha hr => by
        have hu := hr.units; have hu1 := hu_of hr; have hu0 := hr.units0; have hu65 := units65 hr; have hu70 := units70 hr
        exact pss_cons (ps_for hp_cx rfl (pi_list (pvr 0)) (pg_name (i := 2) sc_after_deed.nd rfl (by first | exact Or.inl rfl | exact Or.inr rfl)) (pss_one (ps_fld (pvr 2) (pe_add (pe_fld (pvr 2) rfl) pe_int) rfl))) (pss_cons (ps_if (st_eq hu (se_at (se_var 1) se_int) se_str) (pss_cons (ps_for hp_cx rfl (si_range1 rfl T.range (sa_cons (se_at (se_var 1) se_int) sa_nil)) (pg_name (i := 4) sc_after_deed.nd rfl (by first | exact Or.inl rfl | exact Or.inr rfl)) (pss_one (ps_asg (pe_calV C_after tk_cx (hr.mono (by omega)) rfl (pa_cons (pvr 0) (pa_cons (se_at (se_var 1) se_int) pa_nil))) (pg_name (i := 0) sc_after_deed.nd rfl (by first | exact Or.inl rfl | exact Or.inr rfl))))) (pss_one (ps_ret (pvr 0)))) pss_nil) (pss_cons (ps_asg (pe_lst pa_nil) (pg_name (i := 3) sc_after_deed.nd rfl (by first | exact Or.inl rfl | exact Or.inr rfl))) (pss_cons (ps_for hp_cx rfl (pi_list (pvr 0)) (pg_name (i := 2) sc_after_deed.nd rfl (by first | exact Or.inl rfl | exact Or.inr rfl)) (pss_one (ps_if (st_eq hu (se_at (se_var 1) se_int) se_str) (pss_one (ps_expr (pe_bm PySem.F.plainAttrs_list PySem.F.slot_list_extend PySem.F.type_list_extend mt_extendR (pvr 3) (pa_cons (pe_lc (own := [("number", 5)]) rfl sc_after_deed.nd (si_range1 rfl T.range (sa_cons (se_at (se_var 1) se_int) sa_nil)) (blkOk_by (N := N_after_deed) (sc := defScope s_after_deed) (by decide +kernel)) (fun _ _ _ _ _ => (pg_name (i := 5) sc_after_deed.nd rfl (by first | exact Or.inl rfl | exact Or.inr rfl))) (fun _ _ _ _ _ => pts_nil) (fun _ _ _ _ _ => pe_methW (pvr 2) Wc.c mt_dr F_dr (hr.mono (by omega)) b_dr (fun σ => L2N.passAt takes0N σ) (pa_cons (se_at (se_var 1) se_int) (pa_cons (pvr 5) (pa_cons (se_at (se_var 1) se_int) pa_nil))))) pa_nil)))) (pss_one (ps_if (st_eq hu (se_at (se_var 1) se_int) se_str) (pss_one (ps_expr (pe_bm PySem.F.plainAttrs_list PySem.F.slot_list_extend PySem.F.type_list_extend mt_extendR (pvr 3) (pa_cons (pe_calV C_after tk_cx (hr.mono (by omega)) rfl (pa_cons (pe_lst (pa_cons (pvr 2) pa_nil)) (pa_cons (pe_blk (pvr 1) (pe_worth C_worth Wc tk_cx (hr.mono (by omega)) rfl (se_at (se_var 1) se_int) (pvr 2))) pa_nil))) pa_nil)))) (pss_cons (ps_expr (pe_bm PySem.F.plainAttrs_list PySem.F.slot_list_append PySem.F.type_list_append mt_append (pvr 3) (pa_cons (pvr 2) pa_nil))) (pss_cons (ps_asg (pe_worth C_worth Wc tk_cx (hr.mono (by omega)) rfl (se_at (se_var 1) (se_neg se_int)) (pvr 2)) (pg_name (i := 5) sc_after_deed.nd rfl (by first | exact Or.inl rfl | exact Or.inr rfl))) (pss_one (ps_if (st_eq hu (se_at (se_var 1) se_int) se_str) (pss_one (ps_dput hu1 (pe_fld (pvr 2) rfl) (se_at (se_var 1) se_int) (pvr 5) rfl)) (pss_one (ps_fld (pvr 2) (pe_op op_catA (pe_fld (pvr 2) rfl) (pe_tup (pa_cons (pvr 5) pa_nil))) rfl))))))))))) (pss_cons (ps_if (pt_cmpR op_gt (pe_callB call_len_seq rfl T.len boot_len (pa_cons (pvr 3) pa_nil)) (pe_glob rfl m_mw ⟨_, rfl⟩) (nomark _)) (pss_one (ss_raise T.x_TooMany tk_cx rfl)) pss_nil) (pss_one (ps_ret (pvr 3)))))))
theorem sc_ways_of : FnScope N_ways_of ["program", "house", "beginning"] (defScope s_ways_of) := ⟨rfl, rfl, rfl, by decide +kernel, rfl, by decide +kernel, by decide +kernel⟩
theorem ok_ways_of {f : Addr} {fd : FuncData} {C : Addr} (Wc : WayC K C) (F : Fun K "ways_of" "ways_of" s_ways_of f fd) (T : Txt K mg ec) (Wi : WayI P w K mg base C) (C_after : CalV P w K mg base ec "after" 44 (g_after 30)) : FnOk P w K mg base (L2N.CX P w) 46 f fd ["program", "house", "beginning"] (spW0 K ec 3 g_ways_of) := by
  rw [g_ways_of_eq]
  obtain ⟨fi, fdi, mk, Fi, bi, mgi⟩ := Wi.ex
  obtain ⟨v1, u1, hm1, hr1, hone⟩ := T.c_ONE
  exact fn_ways F sc_ways_of rfl rfl Wc hone fun cdv A outer s H E hr => by
    have hu := hr.units; have hu1 := hu_of hr; have hu0 := hr.units0; have hu65 := units65 hr; have hu70 := units70 hr
    exact pss_cons (ps_asg (sn_dictP rfl rfl T.dict (sa_cons (se_new (sn_lc (own := [("room", 4), ("number", 5)]) tg_tuple rfl rfl sc_ways_of.nd (si_zipM rfl T.zip (sa_cons (se_var 1) (sa_cons (se_var 2) sa_nil))) (blkOk_by (N := N_ways_of) (sc := defScope s_ways_of) (by decide +kernel)) (fun _ _ _ _ _ => (pg_tup (n := 2) rfl (sn_cons (i := 4) sc_ways_of.nd (sn_cons (i := 5) sc_ways_of.nd sn_nil)))) (fun _ _ _ _ _ => sts_nil) (fun _ _ _ _ _ => (se_tup (sa_cons (se_at (se_var 4) se_int) (sa_cons (se_var 5) sa_nil)))))) sa_nil)) (pg_name (i := 3) sc_ways_of.nd rfl (by first | exact Or.inl rfl | exact Or.inr rfl))) (pss_one (ps_ret (pe_calV C_after tk_cx (hr.mono (by decide)) rfl (pa_cons (pe_lst (pa_cons (pe_make mk Fi (hr.mono (by decide)) rfl mgi bi .nil (fun pins σ H s e s' I h => L2N.passAt tk_cx σ pins H s e s' I h) (pa_cons (pvr 3) (pa_cons (pe_tup pa_nil) (pa_cons pe_int (pa_cons (pe_glob rfl hm1 hr1) pa_nil))))) pa_nil)) (pa_cons (pvr 0) pa_nil)))))
theorem sc_plus : FnScope N_plus ["one", "other"] (defScope s_plus) := ⟨rfl, rfl, rfl, by decide +kernel, rfl, by decide +kernel, by decide +kernel⟩
theorem ok_plus {f : Addr} {fd : FuncData} (F : Fun K "plus" "plus" s_plus f fd) (T : Txt K mg ec) (C_fraction : Cal P w K mg base ec "fraction" 2 2 g_fraction) : FnOk P w K mg base (L2N.CX P w) 3 f fd ["one", "other"] (spP K ec 2 g_plus) :=
  by
  rw [g_plus_eq]
  exact fn_pure F sc_plus rfl fun cdv A outer s G0 H E i0 hr => by
    have hu := hr.units; have hu1 := hu_of hr; have hu0 := hr.units0; have hu65 := units65 hr; have hu70 := units70 hr
    exact (ss_one (ss_ret (se_call C_fraction tk_cx (hr.mono (by decide)) rfl (sa_cons (se_add (se_mul (se_at (se_var 0) se_int) (se_at (se_var 1) se_int)) (se_mul (se_at (se_var 1) se_int) (se_at (se_var 0) se_int))) (sa_cons (se_mul (se_at (se_var 0) se_int) (se_at (se_var 1) se_int)) sa_nil)))))
theorem sc_outcomes : FnScope N_outcomes ["program", "house", "beginning"] (defScope s_outcomes) := ⟨rfl, rfl, rfl, by decide +kernel, rfl, by decide +kernel, by decide +kernel⟩
theorem ok_outcomes {f : Addr} {fd : FuncData} {C : Addr} (Wc : WayC K C) (F : Fun K "outcomes" "outcomes" s_outcomes f fd) (T : Txt K mg ec) (C_need_house : Cal P w K mg base ec "need_house" 1 3 g_need_house) (C_need_program : Cal P w K mg base ec "need_program" 1 60 g_need_program) (C_ways_of : CalV0 P w K mg base ec "ways_of" 46 g_ways_of) (C_plus : Cal P w K mg base ec "plus" 2 3 g_plus) : FnOk P w K mg base (L2N.CX P w) 61 f fd ["program", "house", "beginning"] (spP K ec 3 g_outcomes) := by
  rw [g_outcomes_eq]
  obtain ⟨v1, u1, hm1, hr1, hnt⟩ := T.c_NOUGHT
  exact fn_out F sc_outcomes rfl rfl Wc hnt fun cdv A outer s H E hr => by
    have hu := hr.units; have hu1 := hu_of hr; have hu0 := hr.units0; have hu65 := units65 hr; have hu70 := units70 hr
    exact pss_cons (ps_expr (se_call C_need_house tk_cx (hr.mono (by decide)) rfl (sa_cons (se_var 1) sa_nil))) (pss_cons (ps_expr (se_call C_need_program tk_cx (hr.mono (by decide)) rfl (sa_cons (se_var 0) sa_nil))) (pss_cons (ps_asg pe_nnew (pg_name (i := 3) sc_outcomes.nd rfl (by first | exact Or.inl rfl | exact Or.inr rfl))) (pss_cons (ps_for hp_cx rfl (pi_list (pe_calV0 C_ways_of tk_cx (hr.mono (by decide)) rfl (pa_cons (pvr 0) (pa_cons (pvr 1) (pa_cons (pvr 2) pa_nil))))) (pg_name (i := 4) sc_outcomes.nd rfl (by first | exact Or.inl rfl | exact Or.inr rfl)) (pss_cons (ps_asg (pe_tup (pa_cons (pe_fld (pvr 4) rfl) (pa_cons (pe_fld (pvr 4) rfl) pa_nil))) (pg_name (i := 5) sc_outcomes.nd rfl (by first | exact Or.inl rfl | exact Or.inr rfl))) (pss_one (ps_nput hu65 (pvr 3) (pvr 5) (pe_calP C_plus tk_cx (hr.mono (by decide)) rfl (pa_cons (pe_nget2 hu65 (pvr 3) (pvr 5) (pe_glob rfl hm1 hr1) ⟨rfl, rfl, rfl, rfl⟩) (pa_cons (pe_fld (pvr 4) rfl) pa_nil))) rfl)))) (pss_one (ps_ret (se_new (sn_lc (own := [("key", 5)]) tg_name rfl rfl sc_outcomes.nd (si_seq (se_sortN rfl hu70 rfl T.sorted (sa_cons (se_var 3) sa_nil))) (blkOk_by (N := N_outcomes) (sc := defScope s_outcomes) (by decide +kernel)) (fun _ _ _ _ _ => (pg_name (i := 5) sc_outcomes.nd rfl (by first | exact Or.inl rfl | exact Or.inr rfl))) (fun _ _ _ _ _ => sts_nil) (fun _ _ _ _ _ => (se_add (se_var 5) (se_tup (sa_cons (se_nat hu65 (se_var 3) (se_var 5)) sa_nil)))))))))))
theorem sc__law_told : FnScope N__law_told ["program"] (defScope s__law_told) := ⟨rfl, rfl, rfl, by decide +kernel, rfl, by decide +kernel, by decide +kernel⟩
theorem ok__law_told {f : Addr} {fd : FuncData} (F : Fun K "_law_told" "_law_told" s__law_told f fd) (T : Txt K mg ec) (C__law_word : CalW P w K mg base ec "_law_word" 1 wdL) (C_outcomes : Cal P w K mg base ec "outcomes" 3 61 g_outcomes) : FnOk P w K mg base (L2N.CX P w) 62 f fd ["program"] (spP K ec 1 g__law_told) :=
  by
  rw [g__law_told_eq]
  exact fn_pure F sc__law_told rfl fun cdv A outer s G0 H E i0 hr => by
    have hu := hr.units; have hu1 := hu_of hr; have hu0 := hr.units0; have hu65 := units65 hr; have hu70 := units70 hr
    exact (ss_one (ss_try (i := 1) i0 C__law_word (hr.mono (by decide)) tk_cx rfl rfl sc__law_told.nd rfl rfl rfl rfl T.m_TellError T.xm (fun W2 pn2 xx2 tkT hpT => (ss_one (ss_ret (se_len rfl T.len (sa_cons (se_call C_outcomes tkT (hr.mono (by decide)) rfl (sa_cons (se_var 0) (sa_cons (se_new (sn_lst (sa_cons (se_tup (sa_cons se_str (sa_cons se_int sa_nil))) sa_nil))) (sa_cons (se_tup (sa_cons se_int sa_nil)) sa_nil)))) sa_nil))))) (Or.inl rfl)))
theorem sc_law : FnScope N_law ["script"] (defScope s_law) := ⟨rfl, rfl, rfl, by decide +kernel, rfl, by decide +kernel, by decide +kernel⟩
theorem ok_law {f : Addr} {fd : FuncData} (F : Fun K "law" "law" s_law f fd) (T : Txt K mg ec) (C__law_cell : Cal P w K mg base ec "_law_cell" 2 1 g__law_cell) (C__law_drawn : Cal P w K mg base ec "_law_drawn" 2 1 g__law_drawn) (C__law_told : Cal P w K mg base ec "_law_told" 1 62 g__law_told) : FnOk P w K mg base (L2N.CX P w) 63 f fd ["script"] (spP K ec 1 g_law) :=
  by
  rw [g_law_eq]
  exact fn_pure F sc_law rfl fun cdv A outer s G0 H E i0 hr => by
    have hu := hr.units; have hu1 := hu_of hr; have hu0 := hr.units0; have hu65 := units65 hr; have hu70 := units70 hr
    exact (ss_cons (ss_for hp_cx rfl (si_range1 rfl T.range (sa_cons (se_max2 rfl rfl T.max (sa_cons se_int (sa_cons (se_min2 rfl rfl T.min (sa_cons se_int (sa_cons (se_len rfl T.len (sa_cons (se_var 0) sa_nil)) sa_nil))) sa_nil))) sa_nil)) (sg_name (i := 1) sc_law.nd) (ss_cons (ss_set .P (i := 2) sc_law.nd (se_call C__law_drawn tk_cx (hr.mono (by decide)) rfl (sa_cons (se_call C__law_cell tk_cx (hr.mono (by decide)) rfl (sa_cons (se_var 0) (sa_cons (se_var 1) sa_nil))) (sa_cons (se_var 1) sa_nil)))) (ss_cons (ss_set .P (i := 3) sc_law.nd (se_new (sn_lst (sa_cons (se_new (sn_lst (sa_cons se_int (sa_cons se_int (sa_cons se_int (sa_cons se_int sa_nil)))))) (sa_cons (se_new (sn_lst (sa_cons se_int (sa_cons se_int (sa_cons se_int (sa_cons se_int (sa_cons se_int (sa_cons se_int (sa_cons se_int (sa_cons se_int sa_nil)))))))))) (sa_cons (se_new (sn_lst (sa_cons se_int (sa_cons se_int (sa_cons se_int sa_nil))))) (sa_cons (se_new (sn_lst (sa_cons se_int (sa_cons se_int (sa_cons se_int (sa_cons se_int sa_nil)))))) sa_nil))))))) (ss_cons (ss_set .P (i := 3) sc_law.nd (se_add (se_var 3) (se_new (sn_lst (sa_cons (se_new (sn_lst (sa_cons se_int (sa_cons se_int (sa_cons se_int (sa_cons se_int sa_nil)))))) (sa_cons (se_new (sn_lst (sa_cons se_int (sa_cons se_int (sa_cons se_int (sa_cons se_int (sa_cons se_int sa_nil))))))) (sa_cons (se_new (sn_lst (sa_cons se_int (sa_cons se_int (sa_cons se_int (sa_cons se_int sa_nil)))))) sa_nil))))))) (ss_cons (ss_set .P (i := 3) sc_law.nd (se_add (se_var 3) (se_new (sn_lst (sa_cons (se_new (sn_lst (sa_cons se_int (sa_cons se_int (sa_cons se_int (sa_cons se_int sa_nil)))))) (sa_cons (se_new (sn_lst (sa_cons se_int (sa_cons se_int (sa_cons se_int (sa_cons se_int (sa_cons se_int sa_nil))))))) (sa_cons (se_new (sn_lst (sa_cons se_int (sa_cons se_int (sa_cons se_int (sa_cons se_int sa_nil)))))) sa_nil))))))) (ss_cons (ss_set .P (i := 3) sc_law.nd (se_add (se_var 3) (se_new (sn_lst (sa_cons (se_new (sn_lst (sa_cons se_int (sa_cons se_int (sa_cons se_int (sa_cons se_int (sa_cons (se_div se_int se_int) (sa_cons se_int (sa_cons se_int (sa_cons se_int sa_nil)))))))))) sa_nil))))) (ss_cons (ss_set .P (i := 4) sc_law.nd (se_at (se_var 3) (se_mod (se_var 2) se_int))) (ss_cons (ss_set .P (i := 5) sc_law.nd se_int) (ss_cons (ss_for hp_cx rfl (si_seq (se_var 4)) (sg_name (i := 6) sc_law.nd) (ss_one (ss_set .P (i := 5) sc_law.nd (se_mul (se_var 5) (se_var 6))))) (ss_cons (ss_set .P (i := 7) sc_law.nd (se_tuple rfl T.tuple (sa_cons (se_new (sn_lc (own := [("size", 6)]) tg_name rfl rfl sc_law.nd (si_seq (se_var 4)) (blkOk_by (N := N_law) (sc := defScope s_law) (by decide +kernel)) (fun _ _ _ _ _ => (pg_name (i := 6) sc_law.nd rfl (by first | exact Or.inl rfl | exact Or.inr rfl))) (fun _ _ _ _ _ => sts_nil) (fun _ _ _ _ _ => (se_tup (sa_cons se_str (sa_cons se_str (sa_cons (se_var 6) sa_nil))))))) sa_nil))) (ss_cons (ss_if (st_eq hu (se_mod (se_div (se_var 2) se_int) se_int) se_int) (ss_one (ss_set .P (i := 7) sc_law.nd (se_tup (sa_cons (se_tup (sa_cons se_str (sa_cons (se_tup (sa_cons se_str (sa_cons se_str sa_nil))) (sa_cons (se_var 7) (sa_cons (se_tup sa_nil) sa_nil))))) sa_nil)))) ss_nil) (ss_cons (ss_if (st_eq hu (se_mod (se_div (se_var 2) se_int) se_int) se_int) (ss_one (ss_set .P (i := 7) sc_law.nd (se_tup (sa_cons (se_tup (sa_cons se_str (sa_cons se_int (sa_cons (se_var 7) sa_nil)))) sa_nil)))) ss_nil) (ss_cons (ss_set .P (i := 8) sc_law.nd (se_at (se_var 4) (se_neg se_int))) (ss_cons (ss_if (st_ne hu (se_call C__law_told tk_cx (hr.mono (by decide)) rfl (sa_cons (se_add (se_var 7) (se_tup (sa_cons (se_tup (sa_cons se_str (sa_cons (se_tup (sa_cons se_str (sa_cons se_str sa_nil))) sa_nil))) sa_nil))) sa_nil)) (se_at (se_new (sn_lst (sa_cons (se_var 8) (sa_cons se_str sa_nil)))) (se_intc rfl T.int (sa_cons (se_gt (se_var 5) se_int) sa_nil)))) (ss_one (ss_ret se_bl)) ss_nil) (ss_cons (ss_if (st_ne hu (se_call C__law_told tk_cx (hr.mono (by decide)) rfl (sa_cons (se_var 7) sa_nil)) (se_at (se_new (sn_lst (sa_cons se_int (sa_cons se_str sa_nil)))) (se_intc rfl T.int (sa_cons (se_gt (se_var 5) se_int) sa_nil)))) (ss_one (ss_ret se_bl)) ss_nil) (ss_cons (ss_set .P (i := 9) sc_law.nd (se_tup (sa_cons (se_tup (sa_cons se_str (sa_cons se_str (sa_cons se_int sa_nil)))) (sa_cons (se_tup (sa_cons se_str (sa_cons (se_tup (sa_cons se_str (sa_cons se_str sa_nil))) (sa_cons (se_var 7) (sa_cons (se_tup sa_nil) sa_nil))))) sa_nil)))) (ss_one (ss_if (st_ne hu (se_call C__law_told tk_cx (hr.mono (by decide)) rfl (sa_cons (se_var 9) sa_nil)) (se_at (se_new (sn_lst (sa_cons se_int (sa_cons se_str sa_nil)))) (se_intc rfl T.int (sa_cons (se_gt (se_add (se_var 5) se_int) se_int) sa_nil)))) (ss_one (ss_ret se_bl)) ss_nil)))))))))))))))))) (ss_one (ss_ret se_bl)))
end
theorem cell_ok (ns : List Int) (hl : ns.length ≤ 63) (k : Int) (hk : 0 ≤ k) : ∃ c : Int, g__law_cell [.list (ns.map .int), .int k] = .ok (.int c) := by
  cases ns with
  | nil =>
    refine ⟨k * 7919, ?_⟩
    simp [g__law_cell_eq, runB, fb__law_cell, entry, sSeq, sRet, sIf, bVal, eBin, eVar, eC, eLst, aAll, Sl.full, dEq_nil, dMul_int, mulOk_r]
  | cons n r =>
    have h0 : (0 : Int) < ((n :: r).length : Int) := by rw [List.length_cons]; omega
    have hm0 : 0 ≤ k % ((n :: r).length : Int) := Int.emod_nonneg _ (by omega)
    have hm1 : k % ((n :: r).length : Int) < ((n :: r).length : Int) := Int.emod_lt_of_pos _ h0
    obtain ⟨x, hx⟩ := dIx_any (xs := (n :: r).map PyData.int) (i := k % ((n :: r).length : Int)) hm0 (by simpa using hm1)
    have hx2 : ∃ z : Int, x = .int z := by
      obtain ⟨z, _, e⟩ := List.mem_map.mp hx.2
      exact ⟨z, e.symm⟩
    obtain ⟨z, rfl⟩ := hx2
    have e1 := shaped_ints (n :: r)
    have dv : divOk (((n :: r).length : Nat) : Int) = true := divOk_small h0 (by omega)
    refine ⟨z + k / ((n :: r).length : Int) * 104729, ?_⟩
    have hx1 := hx.1
    simp only [List.map_cons, List.length_cons] at hx1 e1 dv h0 hl ⊢
    simp [g__law_cell_eq, runB, fb__law_cell, entry, sSeq, sRet, sIf, sNil, bVal, eBin, eVar, eC, eLst, eCall, aAll, Sl.full, dEq_nil, e1, dMul_int, mulOk_r, dMod_int, dDiv_int]
    simp only [Int.natCast_add, Int.cast_ofNat_Int] at *
    simp [h0, dv, dMod_int, dDiv_int, hx1, dMul_int, mulOk_r]
theorem drawn_ok (c k : Int) : ∃ m : Int, g__law_drawn [.int c, .int k] = .ok (.int m) ∧ 0 ≤ m ∧ m < 340282366920938463463374607431768211507 := by
  generalize h1 : (c * 6364136223846793005 + (k + 1) * 1442695040888963407) % 340282366920938463463374607431768211507 = m1
  generalize h2 : m1 * m1 % 340282366920938463463374607431768211297 = m2
  generalize h3 : (m2 % 18446744073709551557 + 1) * (m2 / 18446744073709551557 + 1) * m2 = m3
  have b1 : 0 ≤ m1 ∧ m1 < 340282366920938463463374607431768211507 := by omega
  have b2 : 0 ≤ m2 ∧ m2 < 340282366920938463463374607431768211297 := by omega
  have ok1 : mulOk m1 m1 = true := mulOk_bd (n := 129) (m := 129) (by unfold Bd; omega) (by unfold Bd; omega) (by decide)
  have ok2 : mulOk (m2 % 18446744073709551557 + 1) (m2 / 18446744073709551557 + 1) = true := mulOk_bd (n := 128) (m := 128) (by unfold Bd; omega) (by unfold Bd; omega) (by decide)
  have ok3 : mulOk ((m2 % 18446744073709551557 + 1) * (m2 / 18446744073709551557 + 1)) m2 = true := mulOk_bd (n := 256) (m := 128) (by
    unfold Bd
    rw [Int.natAbs_mul]
    have x1 : (m2 % 18446744073709551557 + 1).natAbs < 2 ^ 128 := by omega
    have x2 : (m2 / 18446744073709551557 + 1).natAbs < 2 ^ 128 := by omega
    calc _ < 2 ^ 128 * 2 ^ 128 := Nat.mul_lt_mul'' x1 x2
      _ = 2 ^ 256 := by decide) (by unfold Bd; omega) (by decide)
  refine ⟨m3 % 340282366920938463463374607431768211507, ?_, by omega, by omega⟩
  simp [g__law_drawn_eq, runB, fb__law_drawn, entry, sSeq, sAsg, sRet, evM, eBin, eVar, eC, Sl.pur, Sl.full, dMul_int, mulOk_r, dMod_int, dDiv_int, divOk_small, h1, h2, h3, ok1, ok2, ok3]
/-! the program's fractions -/
theorem common_ok {K : Nat} (hK : K ≤ 9000) (a b : Int) (ha : 0 ≤ a) (hb : 0 ≤ b) (hz : b.natAbs < 2 ^ K) : g_common [.int a, .int b] = .ok (.int (Int.gcd a b)) := by
  have hz2 : b < (2 : Int) ^ K := by
    have h2 : ((2 ^ K : Nat) : Int) = (2 : Int) ^ K := Int.natCast_pow 2 K
    rw [← h2]
    omega
  have hf := fuelW_ge
  have e := euclid (t := bVal (eBin dGt (eVar 1) (eC (.int 0)))) (body := lp_common_0) (fun a b => [.pu (.int a), .pu (.int b)]) (fun a b => by simp [bVal, eBin, eVar, eC]) (fun a b h => by simp [lp_common_0, sPar, evML, aAll, eVar, eBin, dMod_int, h]) K fuelW a b ha hb hz2 (by omega)
  simp [g_common_eq, runB, fb_common, entry, sSeq, sWhile, e, sRet, eVar]
theorem fraction_ok {K : Nat} (hK : K ≤ 8000) (a b : Int) (hb : 0 < b) (hz : b.natAbs < 2 ^ K) : g_fraction [.int a, .int b] = .ok (frD (mkRat a b.toNat)) := by
  have h0 : (0 : Int) ≤ (if a < 0 then -a else a) := by split <;> omega
  have e := common_ok (K := K) (by omega) (if a < 0 then -a else a) b h0 (by omega) hz
  have hgp : 0 < Int.gcd (if a < 0 then -a else a) b := Int.gcd_pos_of_ne_zero_right _ (by omega)
  have hgl : Int.gcd (if a < 0 then -a else a) b ≤ b.natAbs := Nat.le_of_dvd (by omega) (Int.gcd_dvd_natAbs_right _ _)
  have hd : divOk ((Int.gcd (if a < 0 then -a else a) b : Nat) : Int) = true := divOk_bd (n := K) (by omega) (by
    unfold Bd
    omega) (by omega)
  have f := frac_of a b hb
  generalize hg : ((Int.gcd (if a < 0 then -a else a) b : Nat) : Int) = g at *
  rw [g_fraction_eq]
  unfold fb_fraction
  simp [runB, entry, sSeq, sAsg, sRet, evM, eCall, aAll, eVar, eBin, eTup, e, dDiv_int, hd, f]
section
variable {n m : Nat} {a b : Rat}
theorem bd_num (h : Bq n a) : Bd n a.num := h.1
theorem bd_den (h : Bq n a) : Bd n (a.den : Int) := by
  unfold Bd
  simpa using h.2
theorem den_pos2 (a b : Rat) : (0 : Int) < (a.den : Int) * (b.den : Int) := Int.mul_pos (by have := a.den_nz; omega) (by have := b.den_nz; omega)
theorem den_mul_cast (a b : Rat) : ((a.den : Int) * (b.den : Int)).toNat = a.den * b.den := by
  rw [← Int.natCast_mul]
  exact Int.toNat_natCast _
theorem den_lt (ha : Bq n a) (hb : Bq m b) : ((a.den : Int) * (b.den : Int)).natAbs < 2 ^ (n + m) := by
  rw [← Int.natCast_mul]
  exact mul_lt2 ha.2 hb.2
theorem plus_d (p q r s : Int) (d : PyData) (e : g_fraction [.int (p * s + r * q), .int (q * s)] = .ok d) (m1 : mulOk p s = true) (m2 : mulOk r q = true) (m3 : mulOk q s = true) : g_plus [.tuple [.int p, .int q], .tuple [.int r, .int s]] = .ok d := by
  rw [g_plus_eq]
  unfold fb_plus
  simp [runB, entry, sRet, eCall, aAll, eVar, eBin, eC, dMul_int, m1, m2, m3, e]
theorem times_d (p q r s : Int) (d : PyData) (e : g_fraction [.int (p * r), .int (q * s)] = .ok d) (m1 : mulOk p r = true) (m3 : mulOk q s = true) : g_times [.tuple [.int p, .int q], .tuple [.int r, .int s]] = .ok d := by
  rw [g_times_eq]
  unfold fb_times
  simp [runB, entry, sRet, eCall, aAll, eVar, eBin, eC, dMul_int, m1, m3, e]
theorem plus_ok (ha : Bq n a) (hb : Bq m b) (h : n + m ≤ 8000) : g_plus [frD a, frD b] = .ok (frD (a + b)) := by
  have e := fraction_ok h (a.num * b.den + b.num * a.den) (a.den * b.den) (den_pos2 a b) (den_lt ha hb)
  rw [den_mul_cast, ← Rat.add_def'] at e
  rw [frD_eq a, frD_eq b]
  exact plus_d _ _ _ _ _ e (mulOk_bd (bd_num ha) (bd_den hb) (by omega)) (mulOk_bd (bd_num hb) (bd_den ha) (by omega)) (mulOk_bd (bd_den ha) (bd_den hb) (by omega))
theorem times_ok (ha : Bq n a) (hb : Bq m b) (h : n + m ≤ 8000) : g_times [frD a, frD b] = .ok (frD (a * b)) := by
  have e := fraction_ok h (a.num * b.num) (a.den * b.den) (den_pos2 a b) (den_lt ha hb)
  rw [den_mul_cast, ← Rat.mul_def'] at e
  rw [frD_eq a, frD_eq b]
  exact times_d _ _ _ _ _ e (mulOk_bd (bd_num ha) (bd_num hb) (by omega)) (mulOk_bd (bd_den ha) (bd_den hb) (by omega))
theorem sgn_mul (w r : Int) (h : r ≠ 0) (hw : w = if 0 < r then 1 else -1) : w = r.sign ∧ w * r = (r.natAbs : Int) ∧ w.natAbs = 1 := by
  rcases Int.lt_or_gt_of_ne h with hs | hs
  · rw [if_neg (by omega)] at hw
    subst hw
    exact ⟨(Int.sign_eq_neg_one_of_neg hs).symm, by omega, rfl⟩
  · rw [if_pos hs] at hw
    subst hw
    exact ⟨(Int.sign_eq_one_of_pos hs).symm, by omega, rfl⟩
end
section
variable {n m : Nat} {a b : Rat}
end
theorem mkRat_div (a : Int) (b : Int) (hb : 0 < b) : mkRat a b.toNat = (a : Rat) / (b : Rat) := by
  rw [Rat.mkRat_eq_div]
  congr 1
  have : ((b.toNat : Nat) : Int) = b := by omega
  rw [← this]
  rfl
/-! terms -/
inductive Tm where
  | num (n : Int)
  | name (s : String)
  | bin (op : String) (a b : Tm)
namespace Tm
def enc : Tm → PyData
  | .num n => .tuple [.str "num", .int n]
  | .name s => .tuple [.str "name", .str (Str.ofString s)]
  | .bin op a b => .tuple [.str (Str.ofString op), a.enc, b.enc]
def deep : Tm → Nat
  | .bin _ a b => max a.deep b.deep + 1
  | _ => 0
def size : Tm → Nat
  | .bin _ a b => a.size + b.size + 1
  | _ => 1
def wf : Tm → Prop
  | .num n => 0 ≤ n ∧ n < 1000
  | .name _ => True
  | .bin op a b => op ∈ ["sum", "less", "times", "same", "under"] ∧ a.wf ∧ b.wf
def val (kvs : List (PyData × PyData)) : Tm → Int
  | .num n => n
  | .name s => match dLook kvs (.inr (Str.ofString s)) with
    | some (.int i) => i
    | _ => 0
  | .bin op a b => if op = "sum" then (a.val kvs + b.val kvs) % 1000 else if op = "less" then (a.val kvs - b.val kvs) % 1000 else if op = "times" then (a.val kvs * b.val kvs) % 1000
    else if op = "same" then (if a.val kvs = b.val kvs then 1 else 0) else if a.val kvs < b.val kvs then 1 else 0
end Tm
def NumsOk (kvs : List (PyData × PyData)) : Prop := ∀ k d, dLook kvs k = some d → ∃ i : Int, d = .int i ∧ 0 ≤ i ∧ i < 1000
theorem val_bd {kvs : List (PyData × PyData)} (hk : NumsOk kvs) : ∀ t : Tm, t.wf → 0 ≤ t.val kvs ∧ t.val kvs < 1000
  | .num n, h => h
  | .name s, _ => by
    unfold Tm.val
    split
    · rename_i i e
      obtain ⟨j, e2, h⟩ := hk _ _ e
      cases e2
      exact h
    · omega
  | .bin op a b, h => by
    unfold Tm.val
    split
    · omega
    · split
      · omega
      · split
        · omega
        · split
          · split <;> omega
          · split <;> omega
theorem look_name {kvs : List (PyData × PyData)} (hk : NumsOk kvs) (s : String) : (dLook kvs (.inr (Str.ofString s))).getD (.int 0) = .int (Tm.val kvs (.name s)) := by
  unfold Tm.val
  cases e : dLook kvs (.inr (Str.ofString s)) with
  | none => rfl
  | some d =>
    obtain ⟨i, e2, h⟩ := hk _ _ e
    subst e2
    rfl
theorem mul_ok {x y : Int} (hx : 0 ≤ x ∧ x < 1000) : mulOk x y = true := mulOk_l (by omega) (by omega)
theorem worth_ok {kvs : List (PyData × PyData)} (hm : mkd kvs = false) (hk : NumsOk kvs) : ∀ (t : Tm) (n : Nat), t.deep < n → t.wf → g_worth n [t.enc, .dict kvs] = .ok (.int (t.val kvs))
  | .num i, n + 1, _, h => by
    rw [g_worth_s]
    simp [runB, fb_worth, entry, sSeq, sAsg, sRet, sIf, sNil, evM, eBin, eVar, eC, bVal, Sl.pur, Sl.full, Tm.enc, Tm.val]
  | .name s, n + 1, _, h => by
    rw [g_worth_s]
    simp [runB, fb_worth, entry, sSeq, sAsg, sRet, sIf, sNil, evM, eBin, eVar, eC, bVal, Sl.pur, Sl.full, Tm.enc, eGet2, dGet2, PL.keyOf, look_name hk, gd_un hm]
  | .bin op a b, n + 1, hd, h => by
    obtain ⟨ho, ha, hb⟩ := h
    simp only [Tm.deep] at hd
    have ea := worth_ok hm hk a n (by omega) ha
    have eb := worth_ok hm hk b n (by omega) hb
    have ba := val_bd hk a ha
    have bb := val_bd hk b hb
    rw [g_worth_s]
    simp only [List.mem_cons, List.mem_nil_iff, or_false, List.not_mem_nil] at ho
    rcases ho with rfl | rfl | rfl | rfl | rfl <;>
      simp [runB, fb_worth, entry, sSeq, sAsg, sRet, sIf, sNil, evM, eBin, eVar, eC, eCall, aAll, bVal, Sl.pur, Sl.full, Tm.enc, Tm.val, ea, eb, c_REST, dMod_int, dMul_int, mul_ok ba]
/-! programs -/
mutual
inductive Dd where
  | put (x : String) (t : Tm)
  | shw (t : Tm)
  | iff (t : Tm) (a b : Bk)
  | again (k : Nat) (b : Bk)
  | draw (x : String) (m : Nat)
inductive Bk where
  | nil
  | cons (d : Dd) (b : Bk)
end
mutual
def Dd.enc : Dd → PyData
  | .put x t => .tuple [.str "put", .str (Str.ofString x), t.enc]
  | .shw t => .tuple [.str "show", t.enc]
  | .iff t a b => .tuple [.str "if", t.enc, .tuple a.encs, .tuple b.encs]
  | .again k b => .tuple [.str "again", .int (k : Int), .tuple b.encs]
  | .draw x m => .tuple [.str "draw", .str (Str.ofString x), .int (m : Int)]
def Bk.encs : Bk → List PyData
  | .nil => []
  | .cons d b => d.enc :: b.encs
end
mutual
def Dd.wf : Dd → Prop
  | .put _ t => t.wf ∧ t.deep < 14
  | .shw t => t.wf ∧ t.deep < 14
  | .iff t a b => (t.wf ∧ t.deep < 14) ∧ a.wf ∧ b.wf
  | .again k b => k ≤ 6 ∧ b.wf
  | .draw _ m => 1 ≤ m ∧ m ≤ 6
def Bk.wf : Bk → Prop
  | .nil => True
  | .cons d b => d.wf ∧ b.wf
end
mutual
/-- how many blocks within one another -/
def Dd.deep : Dd → Nat
  | .iff _ a b => max a.deep b.deep + 1
  | .again _ b => b.deep + 1
  | _ => 0
def Bk.deep : Bk → Nat
  | .nil => 0
  | .cons d b => max d.deep b.deep
end
mutual
/-- how many steps at most -/
def Dd.cost : Dd → Nat
  | .iff _ a b => a.cost + b.cost + 1
  | .again k b => k * b.cost + 1
  | _ => 1
def Bk.cost : Bk → Nat
  | .nil => 0
  | .cons d b => d.cost + b.cost
end
structure St where
  names : List (PyData × PyData)
  trail : List Int
  steps : Nat
  den : Nat
def St.inc (s : St) : St := { s with steps := s.steps + 1 }
noncomputable def St.toW (s : St) : WayD := ⟨s.names, s.trail.map .int, (s.steps : Int), frD (1 / (s.den : Rat))⟩
def St.put (s : St) (x : String) (n : Int) : St := { s with names := dPut s.names (.inr (Str.ofString x)) (.int n) }
def iterS (f : St → List St) : Nat → List St → List St
  | 0, ws => ws
  | n + 1, ws => iterS f n (ws.flatMap f)
mutual
/-- all ways behind a deed -/
def Dd.run : Dd → St → List St
  | .put x t, s => [s.inc.put x (t.val s.names)]
  | .shw t, s => [{ s.inc with trail := s.trail ++ [t.val s.names] }]
  | .iff t a b, s => if t.val s.names ≠ 0 then a.run s.inc else b.run s.inc
  | .again k b, s => iterS (fun s => b.run s) k [s.inc]
  | .draw x m, s => (List.range m).map fun j : Nat => { s.inc.put x (j : Int) with den := s.den * m }
def Bk.run : Bk → St → List St
  | .nil, s => [s]
  | .cons d b, s => (d.run s).flatMap fun s => b.run s
end
/-- a way that is in order, so many steps ahead of it -/
structure St.Ok (c : Nat) (s : St) : Prop where
  mkf : mkd s.names = false
  nums : NumsOk s.names
  len : s.names.length ≤ 8 + s.steps
  tr : s.trail.length ≤ s.steps
  den : s.den ∣ 60 ^ s.steps
  st : s.steps + c ≤ 500
theorem dvd60 {m n : Nat} (h1 : 1 ≤ m) (h2 : m ≤ 6) {d : Nat} (h : d ∣ 60 ^ n) : d * m ∣ 60 ^ (n + 1) := by
  rw [Nat.pow_succ]
  refine Nat.mul_dvd_mul h ?_
  have : m = 1 ∨ m = 2 ∨ m = 3 ∨ m = 4 ∨ m = 5 ∨ m = 6 := by omega
  rcases this with rfl | rfl | rfl | rfl | rfl | rfl <;> decide
theorem dHas_look (kvs : List (PyData × PyData)) (k : Key) : dHas kvs k = (dLook kvs k).isSome := by
  induction kvs with
  | nil => rfl
  | cons p r ih =>
    unfold dLook
    unfold dHas at ih ⊢
    rw [List.any_cons]
    by_cases h : isK k p.1 = true
    · rw [h, if_pos rfl]; rfl
    · rw [if_neg h, ← ih]
      simp [h]
theorem isK_two {k j : Key} {d : PyData} (h1 : isK k d = true) (h2 : isK j d = true) : k = j := by
  cases k <;> cases j <;> cases d <;> simp_all [isK]
theorem look_repl (kvs : List (PyData × PyData)) (k j : Key) (v : PyData) : dLook (kvs.map fun p => if isK k p.1 = true then (p.1, v) else p) j = if k = j then (dLook kvs j).map fun _ => v else dLook kvs j := by
  induction kvs with
  | nil => simp [dLook]
  | cons p r ih =>
    rw [List.map_cons]
    unfold dLook
    rw [ih]
    by_cases h : isK k p.1 = true
    · rw [if_pos h]
      dsimp only
      by_cases h2 : isK j p.1 = true
      · rw [if_pos h2, if_pos h2, if_pos (isK_two h h2)]
        rfl
      · rw [if_neg h2, if_neg h2]
    · rw [if_neg h]
      by_cases h2 : isK j p.1 = true
      · have : k ≠ j := fun z => h (by rw [z]; exact h2)
        rw [if_pos h2, if_pos h2, if_neg this]
      · rw [if_neg h2, if_neg h2]
theorem look_app (kvs ls : List (PyData × PyData)) (j : Key) : dLook (kvs ++ ls) j = (dLook kvs j).or (dLook ls j) := by
  induction kvs with
  | nil => rfl
  | cons p r ih =>
    have e : ∀ (q : PyData × PyData) (s : List (PyData × PyData)), dLook (q :: s) j = if isK j q.1 = true then some q.2 else dLook s j := fun _ _ => rfl
    rw [List.cons_append, e, e, ih]
    split <;> rfl
theorem look_put (kvs : List (PyData × PyData)) (k j : Key) (v : PyData) : dLook (dPut kvs k v) j = if k = j then some v else dLook kvs j := by
  unfold dPut
  rw [dHas_look]
  by_cases h : (dLook kvs k).isSome = true
  · rw [if_pos h, look_repl]
    by_cases e : k = j
    · subst e
      rw [if_pos rfl, if_pos rfl]
      obtain ⟨x, hx⟩ := Option.isSome_iff_exists.mp h
      rw [hx]
      rfl
    · rw [if_neg e, if_neg e]
  · rw [if_neg h, look_app]
    by_cases e : k = j
    · subst e
      rw [if_pos rfl]
      have : dLook kvs k = none := by simpa using h
      rw [this]
      unfold dLook
      rw [if_pos (by rw [isK_kD]; simp)]
      rfl
    · rw [if_neg e]
      have : dLook [(kD k, v)] j = none := by
        unfold dLook
        rw [if_neg (by rw [isK_kD]; simpa using e)]
        rfl
      rw [this]
      simp
theorem put_len (kvs : List (PyData × PyData)) (k : Key) (v : PyData) : (dPut kvs k v).length ≤ kvs.length + 1 := by
  unfold dPut
  split
  · rw [List.length_map]; omega
  · rw [List.length_append]; simp
theorem put_mkd {kvs : List (PyData × PyData)} {k : Key} {v : PyData} (h : mkd kvs = false) : mkd (dPut kvs k v) = false := by
  unfold dPut
  split
  · cases kvs with
    | nil => rfl
    | cons p r =>
      rw [List.map_cons]
      by_cases hk : isK k p.1 = true
      · rw [if_pos hk]
        obtain ⟨p1, p2⟩ := p
        cases p1 <;> first | rfl | cases k <;> simp [isK] at hk
      · rw [if_neg hk]
        obtain ⟨p1, p2⟩ := p
        cases p1 <;> first | rfl | simp [mkd] at h
  · cases kvs with
    | nil => cases k <;> rfl
    | cons p r =>
      obtain ⟨p1, p2⟩ := p
      cases p1 <;> first | rfl | simp [mkd] at h
theorem NumsOk.put {kvs : List (PyData × PyData)} (h : NumsOk kvs) (k : Key) {n : Int} (h0 : 0 ≤ n) (h1 : n < 1000) : NumsOk (dPut kvs k (.int n)) := by
  intro j d e
  rw [look_put] at e
  split at e
  · cases e; exact ⟨n, rfl, h0, h1⟩
  · exact h j d e
namespace St
theorem Ok.inc {c : Nat} {s : St} (h : s.Ok (c + 1)) : s.inc.Ok c := ⟨h.mkf, h.nums, Nat.le_trans h.len (by show 8 + s.steps ≤ 8 + (s.steps + 1); omega), Nat.le_trans h.tr (Nat.le_succ _), Nat.dvd_trans h.den (Nat.pow_dvd_pow _ (Nat.le_succ _)), by have := h.st; show s.steps + 1 + c ≤ 500; omega⟩
theorem Ok.mono {c d : Nat} {s : St} (h : s.Ok c) (e : d ≤ c) : s.Ok d := ⟨h.mkf, h.nums, h.len, h.tr, h.den, by have := h.st; omega⟩
theorem Ok.put {c : Nat} {s : St} (h : s.Ok (c + 1)) (x : String) {n : Int} (h0 : 0 ≤ n) (h1 : n < 1000) : (s.inc.put x n).Ok c := ⟨put_mkd h.mkf, h.nums.put _ h0 h1, Nat.le_trans (put_len _ _ _) (by have := h.len; show s.names.length + 1 ≤ 8 + (s.steps + 1); omega), h.inc.tr, h.inc.den, h.inc.st⟩
end St
theorem iterS_ok {f : St → List St} {P : Nat → St → Prop} {c e : Nat} (hf : ∀ s d, P (e + d) s → ∀ t ∈ f s, P d t) : ∀ (k : Nat) (ws : List St), (∀ s ∈ ws, P (k * e + c) s) → ∀ t ∈ iterS f k ws, P c t
  | 0, ws, h, t, ht => by have := h t ht; rwa [Nat.zero_mul, Nat.zero_add] at this
  | k + 1, ws, h, t, ht => by
    unfold iterS at ht
    refine iterS_ok hf k _ (fun s hs => ?_) t ht
    obtain ⟨u, hu, hs⟩ := List.mem_flatMap.mp hs
    refine hf u _ ?_ s hs
    have := h u hu
    rwa [Nat.succ_mul, Nat.add_comm (k * e) e, Nat.add_assoc] at this
mutual
theorem Dd.run_ok : ∀ (d : Dd), d.wf → ∀ (c : Nat) (s : St), s.Ok (d.cost + c) → ∀ t ∈ d.run s, t.Ok c
  | .put x t, h, c, s, ho, u, hu => by
    unfold Dd.run at hu
    rw [List.mem_singleton] at hu
    subst hu
    have b := val_bd ho.nums t h.1
    have ho : s.Ok (1 + c) := ho
    rw [Nat.add_comm] at ho
    exact ho.put x b.1 b.2
  | .shw t, h, c, s, ho, u, hu => by
    unfold Dd.run at hu
    rw [List.mem_singleton] at hu
    subst hu
    have ho : s.Ok (1 + c) := ho
    rw [Nat.add_comm] at ho
    have i := ho.inc
    exact ⟨i.mkf, i.nums, i.len, by have := ho.tr; show (s.trail ++ [_]).length ≤ s.steps + 1; rw [List.length_append]; simpa using this, i.den, i.st⟩
  | .iff t a b, h, c, s, ho, u, hu => by
    unfold Dd.wf at h
    unfold Dd.cost at ho
    unfold Dd.run at hu
    rw [Nat.add_right_comm] at ho
    have i := ho.inc
    split at hu
    · exact Bk.run_ok a h.2.1 c _ (i.mono (by omega)) u hu
    · exact Bk.run_ok b h.2.2 c _ (i.mono (by omega)) u hu
  | .again k b, h, c, s, ho, u, hu => by
    unfold Dd.wf at h
    unfold Dd.cost at ho
    unfold Dd.run at hu
    rw [Nat.add_right_comm] at ho
    exact iterS_ok (P := fun c s => s.Ok c) (fun s d hs t ht => Bk.run_ok b h.2 d s hs t ht) k [s.inc] (fun s' hs => by rw [List.mem_singleton] at hs; subst hs; exact ho.inc) u hu
  | .draw x m, h, c, s, ho, u, hu => by
    unfold Dd.wf at h
    unfold Dd.run at hu
    obtain ⟨j, hj, rfl⟩ := List.mem_map.mp hu
    rw [List.mem_range] at hj
    have ho : s.Ok (1 + c) := ho
    rw [Nat.add_comm] at ho
    have i := ho.put x (n := (j : Int)) (by omega) (by omega)
    exact ⟨i.mkf, i.nums, i.len, i.tr, dvd60 h.1 h.2 ho.den, i.st⟩
theorem Bk.run_ok : ∀ (b : Bk), b.wf → ∀ (c : Nat) (s : St), s.Ok (b.cost + c) → ∀ t ∈ b.run s, t.Ok c
  | .nil, _, c, s, ho, u, hu => by
    unfold Bk.run at hu
    rw [List.mem_singleton] at hu
    subst hu
    exact ho.mono (by omega)
  | .cons d b, h, c, s, ho, u, hu => by
    unfold Bk.wf at h
    unfold Bk.cost at ho
    unfold Bk.run at hu
    obtain ⟨v, hv, hu⟩ := List.mem_flatMap.mp hu
    rw [Nat.add_assoc] at ho
    exact Bk.run_ok b h.2 c v (Dd.run_ok d h.1 (b.cost + c) s ho v hv) u hu
end
/-! no way ends -/
theorem len_flat {f : St → List St} (hf : ∀ s, 1 ≤ (f s).length) : ∀ ws : List St, ws.length ≤ (ws.flatMap f).length
  | [] => Nat.zero_le _
  | w :: ws => by
    rw [List.flatMap_cons, List.length_append, List.length_cons]
    have := hf w
    have := len_flat hf ws
    omega
theorem len_iter {f : St → List St} (hf : ∀ s, 1 ≤ (f s).length) : ∀ (k : Nat) (ws : List St), ws.length ≤ (iterS f k ws).length
  | 0, ws => Nat.le_refl _
  | k + 1, ws => Nat.le_trans (len_flat hf ws) (len_iter hf k _)
mutual
theorem Dd.run_ne : ∀ (d : Dd), d.wf → ∀ s : St, 1 ≤ (d.run s).length
  | .put x t, _, s => Nat.le_refl _
  | .shw t, _, s => Nat.le_refl _
  | .iff t a b, h, s => by
    unfold Dd.wf at h
    unfold Dd.run
    split
    · exact Bk.run_ne a h.2.1 _
    · exact Bk.run_ne b h.2.2 _
  | .again k b, h, s => by
    unfold Dd.wf at h
    unfold Dd.run
    exact len_iter (fun s => Bk.run_ne b h.2 s) k [s.inc]
  | .draw x m, h, s => by
    unfold Dd.wf at h
    unfold Dd.run
    rw [List.length_map, List.length_range]
    exact h.1
theorem Bk.run_ne : ∀ (b : Bk), b.wf → ∀ s : St, 1 ≤ (b.run s).length
  | .nil, _, s => Nat.le_refl _
  | .cons d b, h, s => by
    unfold Bk.wf at h
    unfold Bk.run
    exact Nat.le_trans (Dd.run_ne d h.1 s) (len_flat (fun s => Bk.run_ne b h.2 s) _)
end
/-! all ways behind a block -/
theorem dIx_m1t2 (a b : PyData) : dIx (.tuple [a, b]) (.int (-1)) = .ok b := rfl
theorem dIx_m1t3 (a b c : PyData) : dIx (.tuple [a, b, c]) (.int (-1)) = .ok c := rfl
noncomputable def finS (ws : List St) : R (List WayD) := if 256 < ws.length then .ex 6 else .ok (ws.map St.toW)
theorem incW_to (s : St) : incW s.toW = s.inc.toW := rfl
theorem map_inc (ws : List St) : (ws.map St.toW).map incW = (ws.map St.inc).map St.toW := by
  rw [List.map_map, List.map_map]
  rfl
theorem flat_one {α β : Type} (f : α → β) : ∀ l : List α, (l.flatMap fun a => [f a]) = l.map f
  | [] => rfl
  | a :: l => by rw [List.flatMap_cons, flat_one f l]; rfl
theorem goW_fin {ga : List WayD → PyData → R (List WayD)} {gw gt : List PyData → R PyData} {d : PyData} {f : St → List St} : ∀ (ws acc : List St), (∀ s ∈ ws, oneW ga gw gt d s.toW = finS (f s)) → acc.length + ws.length * 256 ≤ 900000 → (goW ga gw gt d (ws.map St.toW) (acc.map St.toW)).bind (finW 256 6) = finS (acc ++ ws.flatMap f)
  | [], acc, _, _ => by
    rw [List.map_nil, List.flatMap_nil, List.append_nil]
    unfold goW finS finW
    rw [R.bind_ok, List.length_map]
  | s :: ws, acc, h, hz => by
    rw [List.map_cons]
    unfold goW
    rw [h s List.mem_cons_self, List.flatMap_cons]
    unfold finS
    by_cases hl : 256 < (f s).length
    · rw [if_pos hl, if_pos (by rw [List.length_append, List.length_append]; omega)]
      rfl
    · rw [if_neg hl, R.bind_ok]
      rw [List.length_cons] at hz
      rw [if_pos (by rw [List.length_map, List.length_map]; exact szl_big (by omega)), ← List.map_append]
      have := goW_fin (ga := ga) (gw := gw) (gt := gt) (d := d) (f := f) ws (acc ++ f s) (fun t ht => h t (List.mem_cons_of_mem _ ht)) (by rw [List.length_append]; omega)
      rw [this, List.append_assoc]
      rfl
theorem iterA_fin {ga : List WayD → PyData → R (List WayD)} {b : PyData} {f : St → List St} (hf : ∀ s, 1 ≤ (f s).length) {P : Nat → St → Prop} {c e : Nat} (hp : ∀ s d, P (e + d) s → ∀ t ∈ f s, P d t) (hg : ∀ (ws : List St) (d : Nat), ws.length ≤ 256 → (∀ s ∈ ws, P (e + d) s) → ga (ws.map St.toW) b = finS (ws.flatMap f)) : ∀ (k : Nat) (ws : List St), ws.length ≤ 256 → (∀ s ∈ ws, P (k * e + c) s) → iterA ga (.ok b) k (ws.map St.toW) = finS (iterS f k ws)
  | 0, ws, hl, _ => by
    unfold iterA iterS finS
    rw [if_neg (by omega)]
  | k + 1, ws, hl, h => by
    have h' : ∀ s ∈ ws, P (e + (k * e + c)) s := fun s hs => by
      have := h s hs
      rwa [Nat.succ_mul, Nat.add_comm (k * e) e, Nat.add_assoc] at this
    unfold iterA iterS
    show (ga (ws.map St.toW) b).bind (iterA ga (.ok b) k) = _
    rw [hg ws _ hl h']
    by_cases hz : 256 < (ws.flatMap f).length
    · have := len_iter hf k (ws.flatMap f)
      unfold finS
      rw [if_pos hz, if_pos (by omega)]
      rfl
    · have e1 : finS (ws.flatMap f) = .ok ((ws.flatMap f).map St.toW) := if_neg hz
      rw [e1, R.bind_ok]
      refine iterA_fin (c := c) hf hp hg k _ (by omega) fun t ht => ?_
      obtain ⟨u, hu, ht⟩ := List.mem_flatMap.mp ht
      exact hp u _ (h' u hu) t ht
theorem iter_flat {f : St → List St} : ∀ (k : Nat) (ws : List St), iterS f k ws = ws.flatMap fun s => iterS f k [s]
  | 0, ws => by
    unfold iterS
    rw [flat_one]
    simp
  | k + 1, ws => by
    unfold iterS
    rw [iter_flat k, List.flatMap_assoc]
    congr 1
    funext s
    rw [List.flatMap_cons, List.flatMap_nil, List.append_nil, iter_flat k (f s)]
/-! shares -/
theorem one_div_mk (m : Nat) (h : 1 ≤ m) : (1 : Rat) / (m : Rat) = mkRat 1 m := by
  have := mkRat_div 1 (m : Int) (by omega)
  rw [Int.toNat_natCast] at this
  rw [this, Rat.intCast_natCast]
  rfl
theorem frD_one (m : Nat) (h : 1 ≤ m) : frD (1 / (m : Rat)) = .tuple [.int 1, .int (m : Int)] := by
  have h0 : m ≠ 0 := by omega
  rw [one_div_mk m h, frD_eq, Rat.num_mkRat, Rat.den_mkRat, if_neg h0, if_neg h0]
  simp
theorem den_bits {n d : Nat} (h : d ∣ 60 ^ n) (hn : n ≤ 500) : 1 ≤ d ∧ d < 2 ^ 3001 := by
  have p : 0 < 60 ^ n := Nat.pow_pos (by decide)
  refine ⟨Nat.pos_of_dvd_of_pos h p, Nat.lt_of_le_of_lt (Nat.le_of_dvd p h) ?_⟩
  have h1 : 60 ^ n ≤ (2 ^ 6) ^ n := Nat.pow_le_pow_left (by decide) n
  rw [← Nat.pow_mul] at h1
  exact Nat.lt_of_le_of_lt h1 (Nat.pow_lt_pow_right (by decide) (by omega))
theorem bq_one {n d : Nat} (h : d ∣ 60 ^ n) (hn : n ≤ 500) : Bq 3001 (1 / (d : Rat)) := by
  obtain ⟨h1, h2⟩ := den_bits h hn
  rw [one_div_mk d h1]
  exact bq_mk (by omega) (by rw [show (1 : Int).natAbs = 2 ^ 0 from rfl]; exact Nat.pow_lt_pow_right (by decide) (by decide)) h2
theorem share_ok {n d m : Nat} (h : d ∣ 60 ^ n) (hn : n ≤ 500) (h1 : 1 ≤ m) (h2 : m ≤ 6) : g_times [frD (1 / (d : Rat)), .tuple [.int 1, .int (m : Int)]] = .ok (frD (1 / ((d * m : Nat) : Rat))) := by
  have b := bq_one h hn
  have c : Bq 3 (1 / (m : Rat)) := by
    rw [one_div_mk m h1]
    exact bq_mk (by omega) (by decide) (by omega)
  rw [← frD_one m h1, times_ok b c (by omega)]
  congr 2
  rw [Rat.div_def, Rat.div_def, Rat.div_def, Rat.natCast_mul, Rat.inv_mul_rev]
  grind
/-! one deed -/
theorem drawAll_ok {s : St} {c : Nat} (h : s.Ok c) {m : Nat} (h1 : 1 ≤ m) (h2 : m ≤ 6) (x : String) : ∀ l : List Nat, drawAll g_times s.toW (Str.ofString x) (m : Int) l = .ok (l.map fun j : Nat => ({ s.put x (j : Int) with den := s.den * m } : St).toW)
  | [] => rfl
  | j :: l => by
    unfold drawAll
    rw [drawAll_ok h h1 h2 x l]
    have e : drw1 g_times s.toW (Str.ofString x) (0 + (j : Int)) (m : Int) = .ok ({ s.put x (j : Int) with den := s.den * m } : St).toW := by
      unfold drw1
      show (g_times [frD (1 / (s.den : Rat)), .tuple [.int 1, .int (m : Int)]]).bind _ = _
      rw [share_ok h.den (by have := h.st; omega) h1 h2, R.bind_ok, if_pos (by show s.names.length < szl; exact szl_big (by have := h.len; have := h.st; omega)), Int.zero_add]
      rfl
    rw [e]
    rfl
section
variable {ga : List WayD → PyData → R (List WayD)}
theorem one_put {s : St} {c : Nat} (h : s.Ok c) (x : String) (t : Tm) (ht : t.wf) (hd : t.deep < 14) : oneW ga (g_worth 14) g_times (Dd.put x t).enc s.toW = finS [s.put x (t.val s.names)] := by
  have e := worth_ok h.mkf h.nums t 14 hd ht
  have hl : s.names.length < szl := szl_big (by have := h.len; have := h.st; omega)
  unfold finS
  rw [if_neg (by simp)]
  unfold oneW onePS
  simp [Dd.enc, eBin, eVar, eC, eUn, denv, bVal, R.b0, St.toW, e, PL.keyOf, hl, St.put, dIx_m1t3]
theorem one_shw {s : St} {c : Nat} (h : s.Ok c) (t : Tm) (ht : t.wf) (hd : t.deep < 14) : oneW ga (g_worth 14) g_times (Dd.shw t).enc s.toW = finS [{ s with trail := s.trail ++ [t.val s.names] }] := by
  have e := worth_ok h.mkf h.nums t 14 hd ht
  have hl : s.trail.length + 1 ≤ szl := Nat.le_of_lt (szl_big (by have := h.tr; have := h.st; omega))
  unfold finS
  rw [if_neg (by simp)]
  unfold oneW onePS
  simp [Dd.enc, eBin, eVar, eC, eUn, denv, bVal, R.b0, St.toW, e, hl, dIx_m1t2]
theorem one_draw {s : St} {c : Nat} (h : s.Ok c) (x : String) {m : Nat} (h1 : 1 ≤ m) (h2 : m ≤ 6) : oneW ga (g_worth 14) g_times (Dd.draw x m).enc s.toW = finS ((List.range m).map fun j : Nat => { s.put x (j : Int) with den := s.den * m }) := by
  have e := drawAll_ok h h1 h2 x (List.range m)
  have l1 : -lim < (m : Int) ∧ (m : Int) < lim := by rw [lim_eq]; omega
  unfold finS
  rw [if_neg (by simp; omega)]
  unfold oneW oneDr
  simp [Dd.enc, eBin, eVar, eC, eUn, denv, bVal, R.b0, e, l1]
theorem one_iff {s : St} {c : Nat} (h : s.Ok c) (t : Tm) (a b : Bk) (ht : t.wf) (hd : t.deep < 14) {f : Bk → List St} (ha : ga [s.toW] (.tuple a.encs) = finS (f a)) (hb : ga [s.toW] (.tuple b.encs) = finS (f b)) : oneW ga (g_worth 14) g_times (Dd.iff t a b).enc s.toW = finS (if t.val s.names ≠ 0 then f a else f b) := by
  have e := worth_ok h.mkf h.nums t 14 hd ht
  unfold oneW oneIf pickB
  by_cases hv : t.val s.names = 0
  · rw [if_neg (by simpa using hv)]
    rw [hv] at e
    simp [Dd.enc, eBin, eVar, eC, eUn, denv, bVal, R.b0, St.toW, e] at hb ⊢
    exact hb
  · rw [if_pos hv]
    simp [Dd.enc, eBin, eVar, eC, eUn, denv, bVal, R.b0, St.toW, e, hv] at ha ⊢
    exact ha
end
theorem goA_fin {f : List WayD → PyData → R (List WayD)} (N : Nat) (hf : ∀ (d : Dd), d.wf → 2 * d.deep + 1 ≤ N → ∀ (c : Nat) (ws : List St), ws.length ≤ 256 → (∀ s ∈ ws, s.Ok (d.cost + c)) → f (ws.map St.toW) d.enc = finS (ws.flatMap fun s => d.run s)) : ∀ (b : Bk), b.wf → 2 * b.deep + 1 ≤ N → ∀ (c : Nat) (ws : List St), ws.length ≤ 256 → (∀ s ∈ ws, s.Ok (b.cost + c)) → goA f b.encs (ws.map St.toW) = finS (ws.flatMap fun s => b.run s)
  | .nil, _, _, c, ws, hl, _ => by
    unfold Bk.encs goA finS
    have e : (ws.flatMap fun s => Bk.nil.run s) = ws := by
      rw [show (fun s => Bk.nil.run s) = fun s => [s] from rfl, flat_one (f := fun s => s)]
      simp
    rw [e, if_neg (by omega)]
  | .cons d b, h, hd, c, ws, hl, ho => by
    unfold Bk.wf at h
    unfold Bk.deep at hd
    unfold Bk.cost at ho
    unfold Bk.encs goA
    have e : (ws.flatMap fun s => (Bk.cons d b).run s) = (ws.flatMap fun s => d.run s).flatMap fun s => b.run s := by
      rw [List.flatMap_assoc]
      rfl
    rw [e, hf d h.1 (by omega) (b.cost + c) ws hl fun s hs => by have := ho s hs; rwa [Nat.add_assoc] at this]
    by_cases hz : 256 < (ws.flatMap fun s => d.run s).length
    · have := len_flat (f := fun s => b.run s) (fun s => Bk.run_ne b h.2 s) (ws.flatMap fun s => d.run s)
      unfold finS
      rw [if_pos hz, if_pos (by omega)]
      rfl
    · have e1 : finS (ws.flatMap fun s => d.run s) = .ok ((ws.flatMap fun s => d.run s).map St.toW) := if_neg hz
      rw [e1, R.bind_ok]
      refine goA_fin N hf b h.2 (by omega) c _ (by omega) fun t ht => ?_
      obtain ⟨u, hu, ht⟩ := List.mem_flatMap.mp ht
      exact Dd.run_ok d h.1 (b.cost + c) u (by have := ho u hu; rwa [Nat.add_assoc] at this) t ht
theorem after_both : ∀ n : Nat, (∀ (b : Bk), b.wf → 2 * b.deep + 2 ≤ n → ∀ (c : Nat) (ws : List St), ws.length ≤ 256 → (∀ s ∈ ws, s.Ok (b.cost + c)) → g_after n (ws.map St.toW) (.tuple b.encs) = finS (ws.flatMap fun s => b.run s)) ∧
    (∀ (d : Dd), d.wf → 2 * d.deep + 1 ≤ n → ∀ (c : Nat) (ws : List St), ws.length ≤ 256 → (∀ s ∈ ws, s.Ok (d.cost + c)) → g_after_deed n (ws.map St.toW) d.enc = finS (ws.flatMap fun s => d.run s))
  | 0 => ⟨fun b _ h => absurd h (by omega), fun d _ h => absurd h (by omega)⟩
  | n + 1 => by
    obtain ⟨hb, hd⟩ := after_both n
    refine ⟨fun b h hn c ws hl ho => ?_, fun d h hn c ws hl ho => ?_⟩
    · rw [g_after_s]
      exact goA_fin n (fun d h hn c ws hl ho => hd d h hn c ws hl ho) b h (by omega) c ws hl ho
    · rw [g_after_deed_s]
      have hi : ∀ s ∈ ws.map St.inc, ∃ u ∈ ws, s = u.inc := fun s hs => by
        obtain ⟨u, hu, rfl⟩ := List.mem_map.mp hs
        exact ⟨u, hu, rfl⟩
      have hz : ([] : List St).length + (ws.map St.inc).length * 256 ≤ 900000 := by rw [List.length_map, List.length_nil]; omega
      have fm : ∀ f : St → List St, ((ws.map St.inc).flatMap f) = ws.flatMap fun s => f s.inc := fun f => by rw [List.flatMap_map]
      cases d with
      | put x t =>
        have h : t.wf ∧ t.deep < 14 := h
        have g := goW_fin (ga := g_after n) (gw := g_worth 14) (gt := g_times) (d := (Dd.put x t).enc) (f := fun s => [s.put x (t.val s.names)]) (ws.map St.inc) [] (fun s hs => by
          obtain ⟨u, hu, rfl⟩ := hi s hs
          have ho : u.Ok (1 + c) := ho u hu
          rw [Nat.add_comm] at ho
          exact one_put ho.inc x t h.1 h.2) hz
        rw [fm, List.nil_append, List.map_nil] at g
        unfold gDeed
        rw [map_inc]
        simp [Dd.enc, eBin, eVar, eC, denv, bVal, R.b0] at g ⊢
        exact g
      | shw t =>
        have h : t.wf ∧ t.deep < 14 := h
        have g := goW_fin (ga := g_after n) (gw := g_worth 14) (gt := g_times) (d := (Dd.shw t).enc) (f := fun s => [{ s with trail := s.trail ++ [t.val s.names] }]) (ws.map St.inc) [] (fun s hs => by
          obtain ⟨u, hu, rfl⟩ := hi s hs
          have ho : u.Ok (1 + c) := ho u hu
          rw [Nat.add_comm] at ho
          exact one_shw ho.inc t h.1 h.2) hz
        rw [fm, List.nil_append, List.map_nil] at g
        unfold gDeed
        rw [map_inc]
        simp [Dd.enc, eBin, eVar, eC, denv, bVal, R.b0] at g ⊢
        exact g
      | draw x m =>
        have h : 1 ≤ m ∧ m ≤ 6 := h
        have g := goW_fin (ga := g_after n) (gw := g_worth 14) (gt := g_times) (d := (Dd.draw x m).enc) (f := fun s => (List.range m).map fun j : Nat => { s.put x (j : Int) with den := s.den * m }) (ws.map St.inc) [] (fun s hs => by
          obtain ⟨u, hu, rfl⟩ := hi s hs
          have ho : u.Ok (1 + c) := ho u hu
          rw [Nat.add_comm] at ho
          exact one_draw ho.inc x h.1 h.2) hz
        rw [fm, List.nil_append, List.map_nil] at g
        unfold gDeed
        rw [map_inc]
        simp [Dd.enc, eBin, eVar, eC, denv, bVal, R.b0] at g ⊢
        exact g
      | iff t a b =>
        unfold Dd.wf at h
        unfold Dd.deep at hn
        unfold Dd.cost at ho
        have g := goW_fin (ga := g_after n) (gw := g_worth 14) (gt := g_times) (d := (Dd.iff t a b).enc) (f := fun s => if t.val s.names ≠ 0 then a.run s else b.run s) (ws.map St.inc) [] (fun s hs => by
          obtain ⟨u, hu, rfl⟩ := hi s hs
          have ho := ho u hu
          rw [Nat.add_right_comm] at ho
          have i := ho.inc
          have ea := hb a h.2.1 (by omega) c [u.inc] (by simp) (fun s hs => by rw [List.mem_singleton] at hs; subst hs; exact i.mono (by omega))
          have eb := hb b h.2.2 (by omega) c [u.inc] (by simp) (fun s hs => by rw [List.mem_singleton] at hs; subst hs; exact i.mono (by omega))
          rw [List.flatMap_cons, List.flatMap_nil, List.append_nil] at ea eb
          exact one_iff (f := fun b => b.run u.inc) i t a b h.1.1 h.1.2 ea eb) hz
        rw [fm, List.nil_append, List.map_nil] at g
        unfold gDeed
        rw [map_inc]
        simp [Dd.enc, eBin, eVar, eC, denv, bVal, R.b0] at g ⊢
        simp only [Dd.run, ne_eq, ite_not]
        exact g
      | again k b =>
        unfold Dd.wf at h
        unfold Dd.deep at hn
        unfold Dd.cost at ho
        have l1 : -lim < (k : Int) ∧ (k : Int) < lim := by rw [lim_eq]; omega
        have g := iterA_fin (ga := g_after n) (b := .tuple b.encs) (f := fun s => b.run s) (P := fun c s => s.Ok c) (c := c) (e := b.cost) (fun s => Bk.run_ne b h.2 s) (fun s d hs t ht => Bk.run_ok b h.2 d s hs t ht) (fun ws d hl ho => hb b h.2 (by omega) d ws hl ho) k (ws.map St.inc) (by rw [List.length_map]; exact hl) (fun s hs => by
          obtain ⟨u, hu, rfl⟩ := hi s hs
          have ho := ho u hu
          rw [Nat.add_right_comm] at ho
          exact ho.inc)
        rw [iter_flat, fm] at g
        unfold gDeed
        rw [map_inc]
        simp [Dd.enc, eBin, eVar, eC, denv, bVal, R.b0, l1] at g ⊢
        simp only [Dd.run]
        exact g
/-! shares of outcomes -/
abbrev Ky := List Int × Nat
def kyD (k : Ky) : PyData := .tuple [.tuple (k.1.map .int), .int (k.2 : Int)]
def kyN (k : Ky) : NestedKey := .tup [.tup (k.1.map .num), .num (k.2 : Int)]
theorem nkAll_ints : ∀ l : List Int, nkAll (l.map .int) = some (l.map .num)
  | [] => rfl
  | i :: l => by
    rw [List.map_cons]
    unfold nkAll
    rw [nkAll_ints l]
    rfl
theorem nkOf_ky (k : Ky) : nkOf (kyD k) = some (kyN k) := by
  unfold kyD
  simp [nkOf, nkAll, nkAll_ints, kyN]
theorem depthAll_num : ∀ l : List Int, NestedKey.depthAll (l.map .num) ≤ 1
  | [] => by simp [NestedKey.depthAll]
  | i :: l => by
    have := depthAll_num l
    rw [List.map_cons]
    simp [NestedKey.depthAll, NestedKey.depth]
    omega
theorem nkT_ky (k : Ky) : nkT (kyD k) = some (kyN k) := by
  have e := nkOf_ky k
  have d : (kyN k).depth ≤ 8 := by
    have := depthAll_num k.1
    unfold kyN
    simp [NestedKey.depthAll, NestedKey.depth]
    omega
  unfold kyD at e ⊢
  unfold nkT nkD
  dsimp only
  rw [e]
  exact if_pos d
theorem map_num_inj : ∀ {a b : List Int}, a.map NestedKey.num = b.map NestedKey.num → a = b
  | [], [], _ => rfl
  | i :: a, j :: b, h => by
    rw [List.map_cons, List.map_cons] at h
    injection h with h1 h2
    injection h1 with h1
    rw [h1, map_num_inj h2]
  | [], _ :: _, h => by cases h
  | _ :: _, [], h => by cases h
theorem kyN_inj {a b : Ky} (h : kyN a = kyN b) : a = b := by
  unfold kyN at h
  injection h with h
  injection h with h1 h2
  injection h2 with h2 _
  injection h1 with h1
  injection h2 with h2
  exact Prod.ext (map_num_inj h1) (by omega)
theorem nk_ky (k j : Ky) : decide (nkOf (kyD k) = some (kyN j)) = decide (k = j) := by
  rw [nkOf_ky]
  by_cases h : k = j
  · subst h; simp
  · have : ¬ kyN k = kyN j := fun z => h (kyN_inj z)
    simp [h, this]
abbrev Sh := List (Ky × Rat)
def shHas (l : Sh) (k : Ky) : Option Rat := (l.find? fun p => decide (p.1 = k)).map (·.2)
def shAdd (l : Sh) (k : Ky) (r : Rat) : Sh := if (shHas l k).isSome then l.map fun p => if p.1 = k then (p.1, (shHas l k).getD 0 + r) else p else l ++ [(k, (shHas l k).getD 0 + r)]
noncomputable def encSh (l : Sh) : List (PyData × PyData) := l.map fun p => (kyD p.1, frD p.2)
theorem look_sh (l : Sh) (k : Ky) : nkLook (encSh l) (kyN k) = (shHas l k).map frD := by
  unfold nkLook shHas encSh
  have e : ((fun p : PyData × PyData => decide (nkOf p.1 = some (kyN k))) ∘ fun p : Ky × Rat => (kyD p.1, frD p.2)) = fun p => decide (p.1 = k) := funext fun p => nk_ky p.1 k
  rw [List.find?_map, e]
  cases l.find? fun p => decide (p.1 = k) <;> rfl
theorem put_sh (l : Sh) (k : Ky) (r : Rat) : nkPut (encSh l) (kyN k) (kyD k) (frD ((shHas l k).getD 0 + r)) = encSh (shAdd l k r) := by
  unfold nkPut shAdd
  rw [look_sh, Option.isSome_map]
  split
  · unfold encSh
    rw [List.map_map, List.map_map]
    apply List.map_congr_left
    intro p _
    have := nk_ky p.1 k
    dsimp only [Function.comp]
    by_cases h : p.1 = k
    · rw [if_pos h, if_pos (by rw [nkOf_ky, h])]
    · rw [if_neg h, if_neg (by rw [nkOf_ky]; exact fun z => h (kyN_inj (Option.some.inj z)))]
  · unfold encSh
    rw [List.map_append]
    rfl
/-! bounds -/
noncomputable def DD : Nat := shut (60 ^ 500)
theorem DD_eq : DD = 60 ^ 500 := shut_eq _
theorem DD_pos : 0 < DD := by rw [DD_eq]; exact Nat.pow_pos (by decide)
theorem DD_lt : DD < 2 ^ 3001 := by
  rw [DD_eq]
  exact (den_bits (Nat.dvd_refl _) (Nat.le_refl _)).2
def Qb (n : Nat) (r : Rat) : Prop := ∃ a : Nat, a ≤ n * DD ∧ r = (a : Rat) / (DD : Rat)
theorem DD_ne : (DD : Rat) ≠ 0 := fun z => by
  have := DD_pos
  have z : ((DD : Nat) : Rat) = ((0 : Nat) : Rat) := by simpa using z
  have := Rat.natCast_inj.mp z
  omega
theorem Qb.zero (n : Nat) : Qb n 0 := ⟨0, Nat.zero_le _, by rw [Rat.div_def]; simp⟩
theorem Qb.mono {n m : Nat} {r : Rat} (h : Qb n r) (e : n ≤ m) : Qb m r := by
  obtain ⟨a, h1, h2⟩ := h
  exact ⟨a, Nat.le_trans h1 (Nat.mul_le_mul_right _ e), h2⟩
theorem Qb.add {n m : Nat} {r s : Rat} (h : Qb n r) (e : Qb m s) : Qb (n + m) (r + s) := by
  obtain ⟨a, h1, h2⟩ := h
  obtain ⟨b, h3, h4⟩ := e
  refine ⟨a + b, by rw [Nat.add_mul]; omega, ?_⟩
  rw [h2, h4, Rat.natCast_add, Rat.div_def, Rat.div_def, Rat.div_def, ← Rat.add_mul]
theorem Qb.one {d : Nat} (h : d ∣ DD) : Qb 1 (1 / (d : Rat)) := by
  obtain ⟨q, hq⟩ := h
  have p := DD_pos
  have n := DD_ne
  have hd : 0 < d := Nat.pos_of_dvd_of_pos ⟨q, hq⟩ p
  refine ⟨q, by rw [hq, Nat.one_mul]; exact Nat.le_mul_of_pos_left _ hd, ?_⟩
  rw [hq, Rat.natCast_mul] at n ⊢
  generalize (d : Rat) = x at n ⊢
  generalize (q : Rat) = y at n ⊢
  have hx : x ≠ 0 := fun z => n (by rw [z, Rat.zero_mul])
  have hy : y ≠ 0 := fun z => n (by rw [z, Rat.mul_zero])
  grind
theorem Qb.bq {n : Nat} {r : Rat} (h : Qb n r) (hn : n ≤ 256) : Bq 3010 r := by
  obtain ⟨a, h1, rfl⟩ := h
  have p := DD_pos
  have e := mkRat_div (a : Int) (DD : Int) (by omega)
  rw [Int.toNat_natCast] at e
  have e2 : (((a : Nat) : Int) : Rat) / (((DD : Nat) : Int) : Rat) = (a : Rat) / (DD : Rat) := by rw [Rat.intCast_natCast, Rat.intCast_natCast]
  rw [← e2, ← e]
  have h3 : a < 2 ^ 3010 := by
    have : n * DD ≤ 256 * DD := Nat.mul_le_mul_right _ hn
    have h4 := DD_lt
    have : (2 : Nat) ^ 3010 = 2 * 256 * 2 ^ 3001 := by
      rw [show (3010 : Nat) = 9 + 3001 from rfl, Nat.pow_add]
    rw [this]
    generalize (2 : Nat) ^ 3001 = z at *
    omega
  exact bq_mk (by omega) (by simpa using h3) (Nat.lt_of_lt_of_le DD_lt (Nat.pow_le_pow_right (by decide) (by decide)))
theorem has_mem {l : Sh} {k : Ky} {r : Rat} (h : shHas l k = some r) : (k, r) ∈ l := by
  unfold shHas at h
  cases q : l.find? fun p => decide (p.1 = k) with
  | none => rw [q] at h; cases h
  | some p =>
    rw [q] at h
    cases h
    have h1 := List.mem_of_find?_eq_some q
    have h2 := List.find?_some q
    have : p.1 = k := by simpa using h2
    rw [← this]
    exact h1
theorem shGet_qb {l : Sh} {n : Nat} (h : ∀ p ∈ l, Qb n p.2) (k : Ky) : Qb n ((shHas l k).getD 0) := by
  cases q : shHas l k with
  | none => exact .zero n
  | some r => exact h _ (has_mem q)
theorem shAdd_qb {l : Sh} {n : Nat} (h : ∀ p ∈ l, Qb n p.2) {r : Rat} (hr : Qb 1 r) (k : Ky) : ∀ p ∈ shAdd l k r, Qb (n + 1) p.2 := by
  have g := (shGet_qb h k).add hr
  intro p hp
  unfold shAdd at hp
  split at hp
  · obtain ⟨q, hq, rfl⟩ := List.mem_map.mp hp
    by_cases e : q.1 = k
    · rw [if_pos e]; exact g
    · rw [if_neg e]; exact (h q hq).mono (Nat.le_succ _)
  · rcases List.mem_append.mp hp with hp | hp
    · exact (h p hp).mono (Nat.le_succ _)
    · rw [List.mem_singleton] at hp
      subst hp
      exact g
theorem shAdd_len (l : Sh) (k : Ky) (r : Rat) : (shAdd l k r).length ≤ l.length + 1 := by
  unfold shAdd
  split
  · rw [List.length_map]; omega
  · rw [List.length_append]; simp
/-- all ways' shares -/
def shAll (l : Sh) (ws : List St) : Sh := ws.foldl (fun l s => shAdd l (s.trail, s.steps) (1 / (s.den : Rat))) l
theorem goS_ok : ∀ (ws : List St) (l : Sh) (n : Nat), n + ws.length ≤ 256 → (∀ s ∈ ws, s.den ∣ DD) → (∀ p ∈ l, Qb n p.2) → l.length ≤ n → goS g_plus c_NOUGHT (ws.map St.toW) (encSh l) = .ok (encSh (shAll l ws))
  | [], l, n, _, _, _, _ => rfl
  | s :: ws, l, n, hn, hd, hq, hl => by
    rw [List.length_cons] at hn
    rw [List.map_cons]
    unfold goS
    have e1 : nkT (.tuple [.tuple s.toW.trail, .int s.toW.steps]) = some (kyN (s.trail, s.steps)) := nkT_ky (s.trail, s.steps)
    rw [e1]
    dsimp only
    have q1 := shGet_qb hq (s.trail, s.steps)
    have q2 := Qb.one (hd s List.mem_cons_self)
    have e2 : (nkLook (encSh l) (kyN (s.trail, s.steps))).getD c_NOUGHT = frD ((shHas l (s.trail, s.steps)).getD 0) := by
      rw [look_sh]
      cases shHas l (s.trail, s.steps) with
      | none => exact fr_zero
      | some r => rfl
    rw [e2]
    show (g_plus [frD ((shHas l (s.trail, s.steps)).getD 0), frD (1 / (s.den : Rat))]).b0 _ = _
    rw [plus_ok (q1.bq (by omega)) (q2.bq (by omega)) (by omega)]
    show (if (encSh l).length < szl then _ else _) = _
    have hz : (encSh l).length < szl := by unfold encSh; rw [List.length_map]; exact szl_big (by omega)
    rw [if_pos hz]
    show goS g_plus c_NOUGHT (ws.map St.toW) (nkPut (encSh l) (kyN (s.trail, s.steps)) (kyD (s.trail, s.steps)) (frD ((shHas l (s.trail, s.steps)).getD 0 + 1 / (s.den : Rat)))) = _
    rw [put_sh]
    have := shAdd_len l (s.trail, s.steps) (1 / (s.den : Rat))
    exact goS_ok ws _ (n + 1) (by omega) (fun t ht => hd t (List.mem_cons_of_mem _ ht)) (shAdd_qb hq q2 _) (by omega)
/-! sorted -/
def shKeys (l : Sh) : List Ky := (l.map (·.1)).mergeSort fun a b => PySem.W.dataLe false id (kyD a) (kyD b)
theorem shKeys_len (l : Sh) : (shKeys l).length = l.length := by unfold shKeys; rw [List.length_mergeSort, List.length_map]
theorem shKeys_mem {l : Sh} {k : Ky} (h : k ∈ shKeys l) : ∃ r, (k, r) ∈ l := by
  unfold shKeys at h
  rw [List.mem_mergeSort] at h
  obtain ⟨p, hp, rfl⟩ := List.mem_map.mp h
  exact ⟨p.2, hp⟩
theorem alike_ints : ∀ (a b : List Int), PySem.W.alikeAll (a.map .int) (b.map .int) = true
  | [], [] => by simp [PySem.W.alikeAll]
  | [], _ :: _ => by simp [PySem.W.alikeAll]
  | _ :: _, [] => by simp [PySem.W.alikeAll]
  | i :: a, j :: b => by
    have := alike_ints a b
    simp [PySem.W.alikeAll, PySem.W.alike, this]
theorem alike_ky (a b : Ky) : PySem.W.alike (kyD a) (kyD b) = true := by
  unfold kyD
  simp [PySem.W.alike, PySem.W.alikeAll, alike_ints]
theorem shaped_ky (k : Ky) : SeqAt.shaped (kyD k) = true := by
  exact shaped_of (shp_tuple (shpA_cons (shp_tuple (shpA_ints 0 k.1)) (shpA_cons (shp_int _ _) (shpA_nil _)))) (by decide)
theorem okSort_ky (l : List Ky) : okSort (l.map kyD) = true := by
  unfold okSort
  simp [alike_ky, shaped_ky]
  simp [kyD]
theorem dSort_ky (l : Sh) : dSort ((encSh l).map (·.1)) = (shKeys l).map kyD := by
  unfold dSort shKeys encSh
  rw [List.map_map, List.map_mergeSort (r := fun a b => PySem.W.dataLe false id (kyD a) (kyD b)) (s := PySem.W.dataLe false id) (f := kyD) (by simp), List.map_map]
  rfl
noncomputable def shEnd (l : Sh) : List PyData := (shKeys l).map fun k => .tuple [.tuple (k.1.map .int), .int (k.2 : Int), frD ((shHas l k).getD 0)]
/-! what is a program -/
def nmOk (s : String) : Prop := g_is_name [.str (Str.ofString s)] = .ok (.bool true)
abbrev cd (m l : Int) : PyData := .tuple [.str "Count", .int m, .int l]
theorem need_ok (m l : Int) : g_Count_need (cd m l) [.bool true] = .ok (cd m l) := by
  rw [g_Count_need_eq]
  simp [runO, fb_Count_need, entryO, entry, sIf, bNot, bVal, eVar, sNil, adr]
theorem enter_ok {m l deep : Int} (h1 : m + 1 ≤ 800) (h2 : deep ≤ 12) : g_Count_enter (cd m l) [.int deep] = .ok (cd (m + 1) l) := by
  rw [g_Count_enter_eq]
  simp [gEnter, h1, h2, need_ok]
theorem form_ok (w : String) (r : List PyData) (k : Int) : g_is_form [.tuple (.str (Str.ofString w) :: r), .int k] = .ok (.bool (decide ((r.length : Int) + 1 = k))) := by
  rw [g_is_form_eq]
  simp [runB, fb_is_form, entry, sRet, eAnd, bVal, eUn, eBin, eVar, eC, eCall, aAll, isi_tuple, is_tuple, isi_str, is_str, bC]
  by_cases h : (r.length : Int) + 1 = k <;> simp [h, eUn, eBin, eVar, eC, isi_str, is_str]
theorem count_ok (i a b : Int) : g_is_count [.int i, .int a, .int b] = .ok (.bool (decide (a ≤ i) && decide (i ≤ b))) := by
  rw [g_is_count_eq]
  simp [runB, fb_is_count, entry, sRet, eAnd, bVal, bNot, eNot, eUn, eBin, eVar, eC, eCall, eChain, aAll, isi_int, is_int, isi_bool, is_bool, bC]
  by_cases h : a ≤ i <;> simp [h]
def Tm.nm : Tm → Prop
  | .num _ => True
  | .name s => nmOk s
  | .bin _ a b => a.nm ∧ b.nm
theorem term_need : ∀ (t : Tm) (n : Nat) (m l deep : Int), t.wf → t.nm → t.deep < n → deep + t.deep ≤ 12 → m + t.size ≤ 800 → g_Count_term n (cd m l) [t.enc, .int deep] = .ok (cd (m + t.size) l)
  | .num i, n + 1, m, l, deep, h, _, _, hd, hm => by
    unfold Tm.wf at h
    unfold Tm.size at hm ⊢
    unfold Tm.deep at hd
    have e := enter_ok (m := m) (l := l) (deep := deep) (by omega) (by omega)
    have f := form_ok "num" [.int i] 2
    have c := count_ok i 0 999
    rw [show (decide ((0 : Int) ≤ i) && decide (i ≤ 999)) = true by simp; omega] at c
    rw [g_Count_term_s]
    simp [runO, fb_Count_term, entryO, entry, sSeq, sMeth, sIf, bAnd, bC, bVal, eCall, aAll, eBin, eVar, eC, Tm.enc, e, f, c, need_ok, c_MOST_NUMBER, adr]
  | .name s, n + 1, m, l, deep, _, h, _, hd, hm => by
    unfold Tm.nm nmOk at h
    unfold Tm.size at hm ⊢
    unfold Tm.deep at hd
    have e := enter_ok (m := m) (l := l) (deep := deep) (by omega) (by omega)
    have f := form_ok "name" [.str (Str.ofString s)] 2
    rw [g_Count_term_s]
    simp [runO, fb_Count_term, entryO, entry, sSeq, sMeth, sIf, bAnd, bC, bVal, eCall, aAll, eBin, eAnd, eVar, eC, Tm.enc, e, f, h, need_ok, adr]
  | .bin op a b, n + 1, m, l, deep, h, hn, hd, hd2, hm => by
    obtain ⟨ho, ha, hb⟩ := h
    unfold Tm.size at hm ⊢
    unfold Tm.deep at hd hd2
    have e := enter_ok (m := m) (l := l) (deep := deep) (by omega) (by omega)
    have f2 := form_ok op [a.enc, b.enc] 2
    have f3 := form_ok op [a.enc, b.enc] 3
    have ea := term_need a n (m + 1) l (deep + 1) ha hn.1 (by omega) (by omega) (by omega)
    have eb := term_need b n (m + 1 + a.size) l (deep + 1) hb hn.2 (by omega) (by omega) (by omega)
    have ew : dIn (.str (Str.ofString op)) c_TWOS = .ok (.bool true) := by
      simp only [List.mem_cons, List.mem_nil_iff, or_false, List.not_mem_nil] at ho
      unfold c_TWOS
      rcases ho with rfl | rfl | rfl | rfl | rfl <;> simp [dIn, anyEq, atomic, PyData.eqv]
    rw [show m + ((a.size + b.size + 1 : Nat) : Int) = m + 1 + a.size + b.size by omega]
    rw [g_Count_term_s]
    generalize g_Count_term n = gg at ea eb
    simp [runO, fb_Count_term, entryO, entry, sSeq, sMeth, sIf, bAnd, bC, bVal, eCall, aAll, eBin, eAnd, eVar, eC, Tm.enc, e, f2, f3, ew, need_ok, ea, eb, adr]
mutual
def Dd.nm : Dd → Prop
  | .put x t => nmOk x ∧ t.nm
  | .shw t => t.nm
  | .iff t a b => t.nm ∧ a.nm ∧ b.nm
  | .again _ b => b.nm
  | .draw x _ => nmOk x
def Bk.nm : Bk → Prop
  | .nil => True
  | .cons d b => d.nm ∧ b.nm
end
mutual
def Dd.size : Dd → Nat
  | .put _ t => t.size + 1
  | .shw t => t.size + 1
  | .iff t a b => t.size + a.size + b.size + 1
  | .again _ b => b.size + 1
  | .draw _ _ => 1
def Bk.size : Bk → Nat
  | .nil => 0
  | .cons d b => d.size + b.size
end
mutual
def Dd.dp : Dd → Nat
  | .put _ t => t.deep + 1
  | .shw t => t.deep + 1
  | .iff t a b => max (t.deep + 1) (max (a.dp + 1) (b.dp + 1))
  | .again _ b => b.dp + 1
  | .draw _ _ => 0
def Bk.dp : Bk → Nat
  | .nil => 0
  | .cons d b => max d.dp b.dp
end
theorem forF_cons (tg : GF) (body : SF) (d : PyData) (ds : List PyData) (env : Ev) : forF tg body (d :: ds) env = match tg d env with
    | none => .no
    | some e1 => (body e1).loop (forF tg body ds) := rfl
theorem blk_need {gd : PyData → List PyData → R PyData} {l deep : Int} (N : Nat) (hd : ∀ (d : Dd), d.wf → d.nm → 3 * d.deep + 2 ≤ N → deep + d.dp ≤ 12 → ∀ m : Int, m + d.size ≤ 800 → gd (cd m l) [d.enc, .int deep] = .ok (cd (m + d.size) l)) (E : List PyData) : ∀ (b : Bk), b.wf → b.nm → 3 * b.deep + 2 ≤ N → deep + b.dp ≤ 12 → ∀ (m : Int) (z : Sl), m + b.size ≤ 800 → ∃ z', forF (gN 3) (lp_Count_block_0 gd) b.encs [.ob (cd m l), .pu (.tuple E), .pu (.int deep), z] = .nx [.ob (cd (m + b.size) l), .pu (.tuple E), .pu (.int deep), z']
  | .nil, _, _, _, _, m, z, _ => ⟨z, by simp [Bk.encs, Bk.size, forF]⟩
  | .cons d b, h, hn, hp, hq, m, z, hm => by
    unfold Bk.wf at h
    unfold Bk.nm at hn
    unfold Bk.deep at hp
    unfold Bk.dp at hq
    unfold Bk.size at hm ⊢
    have e := hd d h.1 hn.1 (by omega) (by omega) m (by omega)
    obtain ⟨z', e2⟩ := blk_need N hd E b h.2 hn.2 (by omega) (by omega) (m + d.size) (.pu d.enc) (by omega)
    refine ⟨z', ?_⟩
    rw [show m + ((d.size + b.size : Nat) : Int) = m + d.size + b.size by omega, ← e2]
    simp only [Bk.encs]
    rw [forF_cons]
    unfold lp_Count_block_0
    simp [gN, sMeth, aAll, eVar, e]
theorem need_all : ∀ n : Nat, (∀ (b : Bk), b.wf → b.nm → 3 * b.deep + 3 ≤ n → ∀ deep : Int, deep + b.dp ≤ 12 → ∀ m l : Int, m + b.size ≤ 800 → g_Count_block n (cd m l) [.tuple b.encs, .int deep] = .ok (cd (m + b.size) l)) ∧
    (∀ (d : Dd), d.wf → d.nm → 3 * d.deep + 2 ≤ n → ∀ deep : Int, deep + d.dp ≤ 12 → ∀ m l : Int, m + d.size ≤ 800 → g_Count_deed n (cd m l) [d.enc, .int deep] = .ok (cd (m + d.size) l)) ∧
    (∀ (d : Dd), d.wf → d.nm → 3 * d.deep + 1 ≤ n → (∃ w x y, d.enc = .tuple [.str (Str.ofString w), x, y]) → ∀ deep : Int, deep + d.dp ≤ 12 → ∀ m l : Int, m + d.size ≤ 801 → g_Count_third n (cd m l) [d.enc, .int deep] = .ok (cd (m + d.size - 1) l))
  | 0 => ⟨fun b _ _ h => absurd h (by omega), fun d _ _ h => absurd h (by omega), fun d _ _ h => absurd h (by omega)⟩
  | n + 1 => by
    obtain ⟨hb, hd, ht⟩ := need_all n
    refine ⟨fun b h hn hf deep hp m l hm => ?_, fun d h hn hf deep hp m l hm => ?_, fun d h hn hf h3 deep hp m l hm => ?_⟩
    · obtain ⟨z', e⟩ := blk_need (gd := g_Count_deed n) (l := l) (deep := deep) n (fun d h hn hf hp m hm => hd d h hn hf deep hp m l hm) b.encs b h hn (by omega) hp m .no hm
      rw [g_Count_block_s]
      simp [runO, fb_Count_block, entryO, entry, sSeq, sMeth, aAll, eUn, eVar, isi_tuple, is_tuple, need_ok, sFor, iSeq, e, adr]
    · rw [g_Count_deed_s]
      have e := enter_ok (m := m) (l := l) (deep := deep) (by cases d <;> simp only [Dd.size] at hm <;> omega) (by omega)
      have hthird := ht d h hn (by omega)
      cases d with
      | shw t =>
        have h : t.wf ∧ t.deep < 14 := h
        have hn : t.nm := hn
        have hp : deep + ((t.deep + 1 : Nat) : Int) ≤ 12 := hp
        have hm : m + ((t.size + 1 : Nat) : Int) ≤ 800 := hm
        have f := form_ok "show" [t.enc] 2
        have et := term_need t 14 (m + 1) l (deep + 1) h.1 hn h.2 (by omega) (by omega)
        show _ = R.ok (cd (m + ((t.size + 1 : Nat) : Int)) l)
        rw [show m + ((t.size + 1 : Nat) : Int) = m + 1 + t.size by omega]
        simp [runO, fb_Count_deed, entryO, entry, sSeq, sMeth, sIf, bVal, eCall, aAll, eBin, eAnd, eVar, eC, Dd.enc, e, f, need_ok, et, adr]
      | put x t =>
        have hm' : m + ((t.size + 1 : Nat) : Int) ≤ 800 := hm
        have f2 := form_ok "put" [.str (Str.ofString x), t.enc] 2
        have f3 := form_ok "put" [.str (Str.ofString x), t.enc] 3
        have f4 := form_ok "put" [.str (Str.ofString x), t.enc] 4
        have et := hthird ⟨"put", .str (Str.ofString x), t.enc, rfl⟩ deep hp (m + 1) l (by omega)
        have ew : dIn (.str (Str.ofString "put")) (.tuple [.str "put", .str "again", .str "draw"]) = .ok (.bool true) := by simp [dIn, anyEq, atomic, PyData.eqv]
        rw [show m + 1 + ((Dd.put x t).size : Int) - 1 = m + (Dd.put x t).size by omega] at et
        generalize g_Count_third n = gg at et
        simp [runO, fb_Count_deed, entryO, entry, sSeq, sMeth, sIf, bVal, eCall, aAll, eBin, eAnd, eTup, eVar, eC, Dd.enc, e, f2, f3, f4, ew, need_ok, adr] at et ⊢
        simp [et]
      | draw x k =>
        have hm' : m + ((1 : Nat) : Int) ≤ 800 := hm
        have f2 := form_ok "draw" [.str (Str.ofString x), .int (k : Int)] 2
        have f3 := form_ok "draw" [.str (Str.ofString x), .int (k : Int)] 3
        have f4 := form_ok "draw" [.str (Str.ofString x), .int (k : Int)] 4
        have et := hthird ⟨"draw", .str (Str.ofString x), .int (k : Int), rfl⟩ deep hp (m + 1) l (by omega)
        have ew : dIn (.str (Str.ofString "draw")) (.tuple [.str "put", .str "again", .str "draw"]) = .ok (.bool true) := by simp [dIn, anyEq, atomic, PyData.eqv]
        rw [show m + 1 + ((Dd.draw x k).size : Int) - 1 = m + (Dd.draw x k).size by omega] at et
        generalize g_Count_third n = gg at et
        simp [runO, fb_Count_deed, entryO, entry, sSeq, sMeth, sIf, bVal, eCall, aAll, eBin, eAnd, eTup, eVar, eC, Dd.enc, e, f2, f3, f4, ew, need_ok, adr] at et ⊢
        simp [et]
      | again k b =>
        have hm' : m + ((b.size + 1 : Nat) : Int) ≤ 800 := hm
        have f2 := form_ok "again" [.int (k : Int), .tuple b.encs] 2
        have f3 := form_ok "again" [.int (k : Int), .tuple b.encs] 3
        have f4 := form_ok "again" [.int (k : Int), .tuple b.encs] 4
        have et := hthird ⟨"again", .int (k : Int), .tuple b.encs, rfl⟩ deep hp (m + 1) l (by omega)
        have ew : dIn (.str (Str.ofString "again")) (.tuple [.str "put", .str "again", .str "draw"]) = .ok (.bool true) := by simp [dIn, anyEq, atomic, PyData.eqv]
        rw [show m + 1 + ((Dd.again k b).size : Int) - 1 = m + (Dd.again k b).size by omega] at et
        generalize g_Count_third n = gg at et
        simp [runO, fb_Count_deed, entryO, entry, sSeq, sMeth, sIf, bVal, eCall, aAll, eBin, eAnd, eTup, eVar, eC, Dd.enc, e, f2, f3, f4, ew, need_ok, adr] at et ⊢
        simp [et]
      | iff t a b =>
        unfold Dd.wf at h
        unfold Dd.nm at hn
        unfold Dd.dp at hp
        unfold Dd.deep at hf
        unfold Dd.size at hm ⊢
        have f2 := form_ok "if" [t.enc, .tuple a.encs, .tuple b.encs] 2
        have f4 := form_ok "if" [t.enc, .tuple a.encs, .tuple b.encs] 4
        have et := term_need t 14 (m + 1) l (deep + 1) h.1.1 hn.1 h.1.2 (by omega) (by omega)
        have ea := hb a h.2.1 hn.2.1 (by omega) (deep + 1) (by omega) (m + 1 + t.size) l (by omega)
        have eb := hb b h.2.2 hn.2.2 (by omega) (deep + 1) (by omega) (m + 1 + t.size + a.size) l (by omega)
        rw [show m + ((t.size + a.size + b.size + 1 : Nat) : Int) = m + 1 + t.size + a.size + b.size by omega]
        generalize g_Count_block n = gb at ea eb
        simp [runO, fb_Count_deed, entryO, entry, sSeq, sMeth, sIf, bVal, eCall, aAll, eBin, eAnd, eTup, eVar, eC, Dd.enc, e, f2, f4, need_ok, et, ea, eb, adr]
    · rw [g_Count_third_s]
      cases d with
      | shw t => obtain ⟨w, x, y, z⟩ := h3; simp [Dd.enc] at z
      | iff t a b => obtain ⟨w, x, y, z⟩ := h3; simp [Dd.enc] at z
      | put x t =>
        have h : t.wf ∧ t.deep < 14 := h
        have hn : nmOk x ∧ t.nm := hn
        have hx := hn.1
        unfold nmOk at hx
        have hp : deep + ((t.deep + 1 : Nat) : Int) ≤ 12 := hp
        have hm : m + ((t.size + 1 : Nat) : Int) ≤ 801 := hm
        have et := term_need t 14 m l (deep + 1) h.1 hn.2 h.2 (by omega) (by omega)
        show _ = R.ok (cd (m + ((t.size + 1 : Nat) : Int) - 1) l)
        rw [show m + ((t.size + 1 : Nat) : Int) - 1 = m + t.size by omega]
        simp [runO, fb_Count_third, entryO, entry, sSeq, sMeth, sIf, bVal, eCall, aAll, eBin, eAnd, eVar, eC, Dd.enc, hx, need_ok, et, adr]
      | draw x k =>
        have h : 1 ≤ k ∧ k ≤ 6 := h
        have hx : nmOk x := hn
        unfold nmOk at hx
        have c := count_ok (k : Int) 1 6
        rw [show (decide ((1 : Int) ≤ (k : Int)) && decide ((k : Int) ≤ 6)) = true by simp; omega] at c
        show _ = R.ok (cd (m + ((1 : Nat) : Int) - 1) l)
        rw [show m + ((1 : Nat) : Int) - 1 = m by omega]
        simp [runO, fb_Count_third, entryO, entry, sSeq, sMeth, sIf, bVal, eCall, aAll, eBin, eAnd, eVar, eC, Dd.enc, hx, c, c_MOST_TIMES, need_ok, adr]
      | again k b =>
        unfold Dd.wf at h
        have hn : b.nm := hn
        unfold Dd.deep at hf
        have hp : deep + ((b.dp + 1 : Nat) : Int) ≤ 12 := hp
        have hm : m + ((b.size + 1 : Nat) : Int) ≤ 801 := hm
        have c := count_ok (k : Int) 0 6
        rw [show (decide ((0 : Int) ≤ (k : Int)) && decide ((k : Int) ≤ 6)) = true by simp; omega] at c
        have eb := hb b h.2 hn (by omega) (deep + 1) (by omega) m l (by omega)
        show _ = R.ok (cd (m + ((b.size + 1 : Nat) : Int) - 1) l)
        rw [show m + ((b.size + 1 : Nat) : Int) - 1 = m + b.size by omega]
        generalize g_Count_block n = gb at eb
        simp [runO, fb_Count_third, entryO, entry, sSeq, sMeth, sIf, bVal, eCall, aAll, eBin, eAnd, eVar, eC, Dd.enc, c, c_MOST_TIMES, need_ok, eb, adr]
theorem program_ok (b : Bk) (h : b.wf) (hn : b.nm) (hd : b.deep ≤ 12) (hp : b.dp ≤ 11) (hs : b.size ≤ 800) : g_need_program [.tuple b.encs] = .ok .none := by
  have e := fun l : Int => (need_all 42).1 b h hn (by omega) 1 (by omega) 0 l (by omega)
  have e2 : gNew "Count" (g_Count_block 42) [.tuple b.encs, .int 1] = .ok .none := by
    unfold gNew
    have e' : ∀ l : Nat, g_Count_block 42 (codeC "Count" 0 l) [.tuple b.encs, .int 1] = .ok (cd (0 + b.size) l) := fun l => e l
    rw [if_pos fun l => by rw [e' l, e' 0]; trivial, e' 0]
    rfl
  rw [g_need_program_eq]
  simp [runB, fb_need_program, entry, sNew, noOb, aAll, eVar, eC, e2]
theorem dNIx_sh (l : Sh) (k : Ky) {r : Rat} (h : shHas l k = some r) : dNIx (.dict ((.none, .none) :: encSh l)) (kyD k) = .ok (frD r) := by
  unfold dNIx
  rw [nkT_ky]
  show (match nkLook (encSh l) (kyN k) with | some v => R.ok v | none => .no) = _
  rw [look_sh, h]
  rfl
theorem has_of_mem : ∀ {l : Sh} {k : Ky} {r : Rat}, (k, r) ∈ l → ∃ s, shHas l k = some s
  | p :: l, k, r, h => by
    unfold shHas
    by_cases e : p.1 = k
    · exact ⟨p.2, by rw [List.find?_cons_of_pos (by simpa using e)]; rfl⟩
    · rw [List.find?_cons_of_neg (by simpa using e)]
      rcases List.mem_cons.mp h with h | h
      · subst h; exact absurd rfl e
      · exact has_of_mem h
theorem shAll_len : ∀ (ws : List St) (l : Sh), (shAll l ws).length ≤ l.length + ws.length
  | [], l => Nat.le_refl _
  | s :: ws, l => by
    have h1 := shAll_len ws (shAdd l (s.trail, s.steps) (1 / (s.den : Rat)))
    have h2 := shAdd_len l (s.trail, s.steps) (1 / (s.den : Rat))
    rw [List.length_cons]
    show (shAll (shAdd l (s.trail, s.steps) (1 / (s.den : Rat))) ws).length ≤ _
    omega
theorem end_ok (l : Sh) (hl : l.length ≤ 900000) (p h b : PyData) : fe_outcomes [some p, some h, some b, some (.dict ((.none, .none) :: encSh l)), none, none] = .ok (.list (shEnd l)) := by
  unfold fe_outcomes
  rw [eLc_N]
  have e1 : gSortN [.dict ((.none, .none) :: encSh l)] = .ok (.list ((shKeys l).map kyD)) := by
    have k1 : okSort ((encSh l).map (·.1)) = true := by
      have := okSort_ky (l.map (·.1))
      rw [List.map_map] at this
      unfold encSh
      rw [List.map_map]
      exact this
    show (if okSort ((encSh l).map (·.1)) = true ∧ (encSh l).length ≤ szl then R.ok (PyData.list (dSort ((encSh l).map (·.1)))) else R.no) = _
    rw [if_pos ⟨k1, by unfold encSh; rw [List.length_map]; exact Nat.le_of_lt (szl_big hl)⟩, dSort_ky]
  have e2 : (iSeq (eCall gSortN [eVar 3])) [some p, some h, some b, some (.dict ((.none, .none) :: encSh l)), none, none] = .ok ((shKeys l).map kyD) := by
    simp [iSeq, eCall, aAll, eVar, e1, itemsOf]
  rw [e2, R.bind_ok]
  unfold shEnd
  refine mapL_ok (fun k hk => ?_) (by rw [shKeys_len]; exact hl)
  obtain ⟨r, hr⟩ := shKeys_mem hk
  obtain ⟨s, hs⟩ := has_of_mem hr
  have e3 := dNIx_sh l k hs
  simp [eBin, eVar, eTup, aAll, e3]
  rw [hs]
  exact dAdd_tuple (a := [.tuple (k.1.map .int), .int (k.2 : Int)]) (b := [frD s]) (by simp)
noncomputable def outsOf (ws : List St) : R PyData := if 256 < ws.length then .ex 6 else .ok (.list (shEnd (shAll [] ws)))
theorem outcomes_ok (b : Bk) (hs bg : PyData) (ns : List (PyData × PyData)) (h : b.wf) (hn : b.nm) (hd : b.deep ≤ 12) (hp : b.dp ≤ 11) (hz : b.size ≤ 800) (hc : b.cost ≤ 500) (h1 : g_need_house [hs] = .ok .none) (h2 : fe_ways_of [some (.tuple b.encs), some hs, some bg, none, none, none] = .ok (.dict ns)) (hm : mkd ns = false) (hk : NumsOk ns) (hl : ns.length ≤ 8) :
    g_outcomes [.tuple b.encs, hs, bg] = outsOf (b.run ⟨ns, [], 0, 1⟩) := by
  have e1 := program_ok b h hn hd hp hz
  have s0 : (⟨ns, [], 0, 1⟩ : St).Ok (b.cost + 0) := ⟨hm, hk, hl, Nat.le_refl _, Nat.dvd_refl _, by show 0 + (b.cost + 0) ≤ 500; omega⟩
  have e2 := (after_both 30).1 b h (by omega) 0 [⟨ns, [], 0, 1⟩] (by simp) (fun s hs => by rw [List.mem_singleton] at hs; subst hs; exact s0)
  have e3 : g_ways_of [.tuple b.encs, hs, bg] = finS (b.run ⟨ns, [], 0, 1⟩) := by
    rw [g_ways_of_eq]
    unfold gWays
    dsimp only
    rw [h2]
    show gd ns (g_after 30 [⟨ns, [], 0, c_ONE⟩] (.tuple b.encs)) = _
    rw [gd_un hm]
    rw [List.flatMap_cons, List.flatMap_nil, List.append_nil] at e2
    rw [← e2]
    have : (⟨ns, [], 0, 1⟩ : St).toW = ⟨ns, [], 0, c_ONE⟩ := by
      unfold St.toW
      have : frD (1 / ((1 : Nat) : Rat)) = c_ONE := by rw [frD_one 1 (by omega)]; rfl
      rw [this]
      rfl
    rw [List.map_cons, List.map_nil, this]
  rw [g_outcomes_eq]
  unfold gOut
  dsimp only
  have g1 : (eCall g_need_house [eVar 1]) [some (.tuple b.encs), some hs, some bg, none, none, none] = .ok .none := by simp [eCall, aAll, eVar, h1]
  have g2 : (eCall g_need_program [eVar 0]) [some (.tuple b.encs), some hs, some bg, none, none, none] = .ok .none := by simp [eCall, aAll, eVar, e1]
  rw [g1, R.bind_ok, g2, R.bind_ok, e3]
  unfold finS outsOf
  by_cases hb : 256 < (b.run ⟨ns, [], 0, 1⟩).length
  · rw [if_pos hb, if_pos hb]
    rfl
  · rw [if_neg hb, if_neg hb, R.bind_ok]
    have hw : ∀ s ∈ b.run ⟨ns, [], 0, 1⟩, s.den ∣ DD := fun s hs => by
      have o := Bk.run_ok b h 0 _ s0 s hs
      rw [DD_eq]
      exact Nat.dvd_trans o.den (Nat.pow_dvd_pow _ (by have := o.st; omega))
    have e4 := goS_ok (b.run ⟨ns, [], 0, 1⟩) [] 0 (by omega) hw (by simp) (Nat.le_refl _)
    rw [show ([] : List (PyData × PyData)) = encSh [] from rfl, e4, R.bind_ok]
    exact end_ok _ (by have := shAll_len (b.run ⟨ns, [], 0, 1⟩) []; simp at this; omega) _ _ _
/-! how many outcomes -/
def addK (ks : List Ky) (k : Ky) : List Ky := if k ∈ ks then ks else ks ++ [k]
theorem has_iff (l : Sh) (k : Ky) : (shHas l k).isSome = true ↔ k ∈ l.map (·.1) := by
  constructor
  · intro h
    obtain ⟨r, hr⟩ := Option.isSome_iff_exists.mp h
    exact List.mem_map.mpr ⟨_, has_mem hr, rfl⟩
  · intro h
    obtain ⟨p, hp, rfl⟩ := List.mem_map.mp h
    obtain ⟨s, hs⟩ := has_of_mem (k := p.1) (r := p.2) hp
    rw [hs]; rfl
theorem shAdd_keys (l : Sh) (k : Ky) (r : Rat) : (shAdd l k r).map (·.1) = addK (l.map (·.1)) k := by
  unfold shAdd addK
  by_cases h : k ∈ l.map (·.1)
  · rw [if_pos ((has_iff l k).mpr h), if_pos h, List.map_map]
    apply List.map_congr_left
    intro p _
    dsimp only [Function.comp]
    split <;> rfl
  · rw [if_neg (fun z => h ((has_iff l k).mp z)), if_neg h, List.map_append]
    rfl
def ky (s : St) : Ky := (s.trail, s.steps)
theorem shAll_keys : ∀ (ws : List St) (l : Sh), (shAll l ws).map (·.1) = (ws.map ky).foldl addK (l.map (·.1))
  | [], l => rfl
  | s :: ws, l => by
    have := shAll_keys ws (shAdd l (ky s) (1 / (s.den : Rat)))
    rw [shAdd_keys] at this
    exact this
theorem addK_mem : ∀ (rest ks : List Ky), (∀ k ∈ rest, k ∈ ks) → rest.foldl addK ks = ks
  | [], _, _ => rfl
  | k :: rest, ks, h => by
    have e : addK ks k = ks := if_pos (h k List.mem_cons_self)
    rw [List.foldl_cons, e]
    exact addK_mem rest ks fun x hx => h x (List.mem_cons_of_mem _ hx)
theorem addK_nodup : ∀ (ls ks : List Ky), (ks ++ ls).Nodup → ls.foldl addK ks = ks ++ ls
  | [], ks, _ => by simp
  | k :: ls, ks, h => by
    have hn : k ∉ ks := fun z => by
      rw [List.nodup_append] at h
      exact h.2.2 k z k List.mem_cons_self rfl
    have e : addK ks k = ks ++ [k] := if_neg hn
    rw [List.foldl_cons, e, addK_nodup ls (ks ++ [k]) (by simpa using h)]
    simp
/-- the list begins with F, and then all is of F -/
def Beg {α : Type} (L F : List α) : Prop := ∃ rest, L = F ++ rest ∧ ∀ k ∈ rest, k ∈ F
theorem Beg.mem {α : Type} {L F : List α} (h : Beg L F) : ∀ k ∈ L, k ∈ F := by
  obtain ⟨r, rfl, h⟩ := h
  intro k hk
  rcases List.mem_append.mp hk with hk | hk
  · exact hk
  · exact h k hk
theorem Beg.refl {α : Type} (F : List α) : Beg F F := ⟨[], by simp, by simp⟩
theorem Beg.flat {α β : Type} {F : List β} {f : α → List β} : ∀ {xs : List α}, xs ≠ [] → (∀ x ∈ xs, Beg (f x) F) → Beg (xs.flatMap f) F
  | [], h, _ => absurd rfl h
  | x :: xs, _, h => by
    obtain ⟨r, e, hr⟩ := h x List.mem_cons_self
    refine ⟨r ++ xs.flatMap f, by rw [List.flatMap_cons, e, List.append_assoc], fun k hk => ?_⟩
    rcases List.mem_append.mp hk with hk | hk
    · exact hr k hk
    · obtain ⟨y, hy, hk⟩ := List.mem_flatMap.mp hk
      exact (h y (List.mem_cons_of_mem _ hy)).mem k hk
theorem Beg.map {α β : Type} (g : α → β) {L F : List α} (h : Beg L F) : Beg (L.map g) (F.map g) := by
  obtain ⟨r, rfl, h⟩ := h
  refine ⟨r.map g, by rw [List.map_append], fun k hk => ?_⟩
  obtain ⟨x, hx, rfl⟩ := List.mem_map.mp hk
  exact List.mem_map.mpr ⟨x, h x hx, rfl⟩
theorem Beg.len {ws : List St} {F : List Ky} (h : Beg (ws.map ky) F) (hn : F.Nodup) : (shAll [] ws).length = F.length := by
  obtain ⟨r, e, hr⟩ := h
  have := shAll_keys ws []
  rw [e, List.foldl_append, List.map_nil, addK_nodup F [] (by simpa using hn), List.nil_append, addK_mem r F hr] at this
  rw [← List.length_map (f := (·.1)), this]
/-! draws in a row -/
def dB : List Nat → Bk → Bk
  | [], b => b
  | m :: ms, b => .cons (.draw "w" m) (dB ms b)
def wv (s : St) : Int := Tm.val s.names (.name "w")
def av (s : St) : Int := Tm.val s.names (.name "a")
/-- a block that draws: how many ways, how many steps, what w is at the end -/
structure Fit (D : Bk) (P n last : Nat) : Prop where
  len : ∀ s, av s = 1 → (D.run s).length = P
  tr : ∀ s, av s = 1 → ∀ t ∈ D.run s, t.trail = s.trail ∧ t.steps = s.steps + n
  w : ∀ s, av s = 1 → Beg ((D.run s).map wv) ((List.range last).map fun j : Nat => (j : Int))
theorem av_put (s : St) (n : Int) : av (s.inc.put "w" n) = av s := by
  unfold av Tm.val St.put St.inc
  dsimp only
  rw [look_put, if_neg (by simp [ofString_inj])]
theorem wv_put (s : St) (n : Int) : wv (s.inc.put "w" n) = n := by
  unfold wv Tm.val St.put St.inc
  dsimp only
  rw [look_put, if_pos rfl]
def prd (ms : List Nat) : Nat := ms.foldr (· * ·) 1
theorem run_cons (d : Dd) (b : Bk) (s : St) : (Bk.cons d b).run s = (d.run s).flatMap fun s => b.run s := by rw [Bk.run]
theorem run_nil (s : St) : Bk.nil.run s = [s] := by rw [Bk.run]
theorem run_draw (x : String) (m : Nat) (s : St) : (Dd.draw x m).run s = (List.range m).map fun j : Nat => { s.inc.put x (j : Int) with den := s.den * m } := by rw [Dd.run]
theorem len_const {α β : Type} {f : α → List β} {n : Nat} : ∀ {xs : List α}, (∀ x ∈ xs, (f x).length = n) → (xs.flatMap f).length = xs.length * n
  | [], _ => by simp
  | x :: xs, h => by
    rw [List.flatMap_cons, List.length_append, h x List.mem_cons_self, len_const fun y hy => h y (List.mem_cons_of_mem _ hy), List.length_cons, Nat.succ_mul]
    omega
theorem map_flat {α β γ : Type} (g : β → γ) (f : α → List β) (xs : List α) : (xs.flatMap f).map g = xs.flatMap fun x => (f x).map g := by rw [List.map_flatMap]
theorem fit_draws : ∀ (ms : List Nat) (m : Nat), (∀ x ∈ m :: ms, 1 ≤ x) → Fit (dB (m :: ms) .nil) (prd (m :: ms)) (ms.length + 1) ((m :: ms).getLast (by simp))
  | [], m, h => by
    have e : ∀ s, (dB [m] .nil).run s = (List.range m).map fun j : Nat => ({ s.inc.put "w" (j : Int) with den := s.den * m } : St) := fun s => by
      unfold dB dB
      rw [run_cons, run_draw, List.flatMap_map]
      have : (fun a : Nat => Bk.nil.run ({ s.inc.put "w" (a : Int) with den := s.den * m } : St)) = fun a : Nat => [({ s.inc.put "w" (a : Int) with den := s.den * m } : St)] := funext fun a => run_nil _
      rw [this, flat_one]
    refine ⟨fun s _ => by rw [e]; simp [prd], fun s _ t ht => ?_, fun s _ => ?_⟩
    · rw [e] at ht
      obtain ⟨j, _, rfl⟩ := List.mem_map.mp ht
      exact ⟨rfl, rfl⟩
    · rw [e, List.map_map]
      have : (wv ∘ fun j : Nat => ({ s.inc.put "w" (j : Int) with den := s.den * m } : St)) = fun j : Nat => (j : Int) := funext fun j => wv_put s j
      rw [this]
      exact Beg.refl _
  | m' :: ms, m, h => by
    obtain ⟨i1, i2, i3⟩ := fit_draws ms m' fun x hx => h x (List.mem_cons_of_mem _ hx)
    have e : ∀ s, (dB (m :: m' :: ms) .nil).run s = (List.range m).flatMap fun j : Nat => (dB (m' :: ms) .nil).run ({ s.inc.put "w" (j : Int) with den := s.den * m } : St) := fun s => by
      rw [dB, run_cons, run_draw, List.flatMap_map]
    have ha : ∀ s, av s = 1 → ∀ j : Nat, av ({ s.inc.put "w" (j : Int) with den := s.den * m } : St) = 1 := fun s hs j => by rw [← hs]; exact av_put s j
    refine ⟨fun s hs => ?_, fun s hs t ht => ?_, fun s hs => ?_⟩
    · rw [e, len_const (n := prd (m' :: ms)) fun j _ => i1 _ (ha s hs j), List.length_range]
      rfl
    · rw [e] at ht
      obtain ⟨j, _, ht⟩ := List.mem_flatMap.mp ht
      obtain ⟨t1, t2⟩ := i2 _ (ha s hs j) t ht
      exact ⟨t1, by rw [t2]; show s.steps + 1 + (ms.length + 1) = s.steps + ((m' :: ms).length + 1); rw [List.length_cons]; omega⟩
    · rw [e, map_flat, List.getLast_cons (by simp)]
      have := h m List.mem_cons_self
      refine Beg.flat (fun z => ?_) fun j _ => i3 _ (ha s hs j)
      have := congrArg List.length z
      rw [List.length_range] at this
      simp at this
      omega
theorem fit_if {D : Bk} {P n last : Nat} (F : Fit D P n last) : Fit (.cons (.iff (.name "a") D .nil) .nil) P (n + 1) last := by
  have e : ∀ s, av s = 1 → (Bk.cons (.iff (.name "a") D .nil) .nil).run s = D.run s.inc := fun s hs => by
    have : Tm.val s.names (.name "a") ≠ 0 := by unfold av at hs; omega
    rw [run_cons, Dd.run, if_pos this]
    rw [show (fun s => Bk.nil.run s) = fun s => [s] from funext run_nil, flat_one (f := fun s => s)]
    simp
  have ha : ∀ s, av s = 1 → av s.inc = 1 := fun s h => h
  refine ⟨fun s hs => by rw [e s hs]; exact F.len _ (ha s hs), fun s hs t ht => ?_, fun s hs => by rw [e s hs]; exact F.w _ (ha s hs)⟩
  rw [e s hs] at ht
  obtain ⟨h1, h2⟩ := F.tr _ (ha s hs) t ht
  exact ⟨h1, by rw [h2]; show s.steps + 1 + n = s.steps + (n + 1); omega⟩
theorem fit_again {D : Bk} {P n last : Nat} (F : Fit D P n last) : Fit (.cons (.again 1 D) .nil) P (n + 1) last := by
  have e : ∀ s, (Bk.cons (.again 1 D) .nil).run s = D.run s.inc := fun s => by
    rw [run_cons, Dd.run]
    rw [show (fun s => Bk.nil.run s) = fun s => [s] from funext run_nil, flat_one (f := fun s => s)]
    simp [iterS]
  have ha : ∀ s, av s = 1 → av s.inc = 1 := fun s h => h
  refine ⟨fun s hs => by rw [e s]; exact F.len _ (ha s hs), fun s hs t ht => ?_, fun s hs => by rw [e s]; exact F.w _ (ha s hs)⟩
  rw [e s] at ht
  obtain ⟨h1, h2⟩ := F.tr _ (ha s hs) t ht
  exact ⟨h1, by rw [h2]; show s.steps + 1 + n = s.steps + (n + 1); omega⟩
/-- the one behind the other -/
def Bk.app : Bk → Bk → Bk
  | .nil, b => b
  | .cons d a, b => .cons d (a.app b)
theorem run_app : ∀ (a b : Bk) (s : St), (a.app b).run s = (a.run s).flatMap fun s => b.run s
  | .nil, b, s => by rw [Bk.app, run_nil, List.flatMap_cons]; simp
  | .cons d a, b, s => by
    rw [Bk.app, run_cons, run_cons, List.flatMap_assoc]
    congr 1
    funext t
    exact run_app a b t
theorem encs_app : ∀ (a b : Bk), (a.app b).encs = a.encs ++ b.encs
  | .nil, b => by simp [Bk.app, Bk.encs]
  | .cons d a, b => by simp [Bk.app, Bk.encs, encs_app a b]
section
variable {D : Bk} {P n last : Nat} (F : Fit D P n last) {s : St} (hs : av s = 1)
include F hs
theorem fit_show : ((D.app (.cons (.shw (.name "w")) .nil)).run s).length = P ∧ (1 ≤ last → (shAll [] ((D.app (.cons (.shw (.name "w")) .nil)).run s)).length = last) := by
  have e : (D.app (.cons (.shw (.name "w")) .nil)).run s = (D.run s).map fun t => ({ t.inc with trail := t.trail ++ [wv t] } : St) := by
    rw [run_app]
    rw [← flat_one]
    congr 1
  refine ⟨by rw [e, List.length_map]; exact F.len s hs, fun hl => ?_⟩
  have hb : Beg (((D.app (.cons (.shw (.name "w")) .nil)).run s).map ky) ((List.range last).map fun j : Nat => (s.trail ++ [(j : Int)], s.steps + n + 1)) := by
    have b := (F.w s hs).map fun j : Int => ((s.trail ++ [j], s.steps + n + 1) : Ky)
    rw [List.map_map, List.map_map] at b
    rw [e, List.map_map]
    have : (D.run s).map (ky ∘ fun t => ({ t.inc with trail := t.trail ++ [wv t] } : St)) = (D.run s).map ((fun j : Int => ((s.trail ++ [j], s.steps + n + 1) : Ky)) ∘ wv) := by
      apply List.map_congr_left
      intro t ht
      obtain ⟨h1, h2⟩ := F.tr s hs t ht
      show (t.trail ++ [wv t], t.steps + 1) = (s.trail ++ [wv t], s.steps + n + 1)
      rw [h1, h2]
    rw [this]
    exact b
  rw [hb.len ?_]
  · simp
  · refine List.Pairwise.map _ (fun i j hij h => hij ?_) List.nodup_range
    injection h with h _
    have := List.append_cancel_left h
    injection this with this _
    omega
theorem fit_alone (hp : 1 ≤ P) : (shAll [] (D.run s)).length = 1 := by
  have hb : Beg ((D.run s).map ky) [(s.trail, s.steps + n)] := by
    have hl := F.len s hs
    have ht := F.tr s hs
    cases q : D.run s with
    | nil => rw [q] at hl; simp at hl; omega
    | cons t ts =>
      rw [q] at ht
      have hk : ∀ u ∈ t :: ts, ky u = (s.trail, s.steps + n) := fun u hu => by
        obtain ⟨h1, h2⟩ := ht u hu
        unfold ky
        rw [h1, h2]
      refine ⟨ts.map ky, by rw [List.map_cons, hk t List.mem_cons_self]; rfl, fun k hk' => ?_⟩
      obtain ⟨u, hu, rfl⟩ := List.mem_map.mp hk'
      rw [hk u (List.mem_cons_of_mem _ hu)]
      exact List.mem_singleton.mpr rfl
  rw [hb.len (by simp)]
  rfl
theorem fit_more (hp : 1 ≤ P) (hn : 1 ≤ n) : ((Bk.cons (.draw "w" 2) (.cons (.iff (.name "w") D .nil) .nil)).run s).length = P + 1 ∧ (shAll [] ((Bk.cons (.draw "w" 2) (.cons (.iff (.name "w") D .nil) .nil)).run s)).length = 2 := by
  generalize h0 : ({ s.inc.put "w" ((0 : Nat) : Int) with den := s.den * 2 } : St) = s0
  generalize h1 : ({ s.inc.put "w" ((1 : Nat) : Int) with den := s.den * 2 } : St) = s1
  have a1 : av s1.inc = 1 := by subst h1; rw [← hs]; exact av_put s 1
  have w0 : Tm.val s0.names (.name "w") = 0 := by subst h0; exact wv_put s 0
  have w1 : Tm.val s1.names (.name "w") = 1 := by subst h1; exact wv_put s 1
  have hnil : (fun s => Bk.nil.run s) = fun s => [s] := funext run_nil
  have e : (Bk.cons (.draw "w" 2) (.cons (.iff (.name "w") D .nil) .nil)).run s = s0.inc :: D.run s1.inc := by
    rw [run_cons, run_draw]
    show ([({ s.inc.put "w" ((0 : Nat) : Int) with den := s.den * 2 } : St), { s.inc.put "w" ((1 : Nat) : Int) with den := s.den * 2 }]).flatMap _ = _
    rw [h0, h1, List.flatMap_cons, List.flatMap_cons, List.flatMap_nil, List.append_nil, run_cons, run_cons, Dd.run, Dd.run, w0, w1, if_neg (by simp), if_pos (by simp), hnil, flat_one (f := fun s => s), flat_one (f := fun s => s), run_nil]
    simp
  have st0 : s0.inc.trail = s.trail ∧ s0.inc.steps = s.steps + 2 := by subst h0; exact ⟨rfl, rfl⟩
  have st1 : s1.inc.trail = s.trail ∧ s1.inc.steps = s.steps + 2 := by subst h1; exact ⟨rfl, rfl⟩
  refine ⟨by rw [e, List.length_cons, F.len _ a1], ?_⟩
  have hb : Beg ((s0.inc :: D.run s1.inc).map ky) [(s.trail, s.steps + 2), (s.trail, s.steps + 2 + n)] := by
    have hl := F.len s1.inc a1
    have ht := F.tr s1.inc a1
    cases q : D.run s1.inc with
    | nil => rw [q] at hl; simp at hl; omega
    | cons t ts =>
      rw [q] at ht
      have hk : ∀ u ∈ t :: ts, ky u = (s.trail, s.steps + 2 + n) := fun u hu => by
        obtain ⟨h1, h2⟩ := ht u hu
        unfold ky
        rw [h1, h2, st1.1, st1.2]
      have k0 : ky s0.inc = (s.trail, s.steps + 2) := by unfold ky; rw [st0.1, st0.2]
      refine ⟨ts.map ky, by rw [List.map_cons, List.map_cons, hk t List.mem_cons_self, k0]; rfl, fun k hk' => ?_⟩
      obtain ⟨u, hu, rfl⟩ := List.mem_map.mp hk'
      rw [hk u (List.mem_cons_of_mem _ hu)]
      simp
  rw [e, hb.len ?_]
  · rfl
  · simp
    omega
end
def lets : Str := "abcdefghijklmnopqrstuvwxyz"
def nmB (s : Str) : Bool := decide (1 ≤ s.length) && decide (s.length ≤ 4) && s.cps.toList.all fun c => !(Builtin.Str.occurrences lets ⟨#[c]⟩ 0 lets.length 1).isEmpty
theorem bools_map {α : Type} (p : α → Bool) : ∀ l : List α, boolsOf (l.map fun x => .bool (p x)) = some (l.map p)
  | [] => rfl
  | x :: l => by
    rw [List.map_cons]
    unfold boolsOf
    rw [bools_map p l]
    rfl
theorem all_map {α : Type} (p : α → Bool) (l : List α) : gAll [.list (l.map fun x => .bool (p x))] = .ok (.bool (l.all p)) := by
  unfold gAll
  dsimp only
  rw [bools_map]
  dsimp only
  rw [List.all_map]
  rfl
theorem name_of (s : Str) (hs : s.length ≤ 900000) : g_is_name [.str s] = .ok (.bool (nmB s)) := by
  have g : gLen [.str s] = .ok (.int s.length) := if_pos (Nat.le_of_lt (szl_big hs))
  rw [g_is_name_eq]
  unfold nmB
  by_cases h1 : 1 ≤ s.length
  · by_cases h4 : s.length ≤ 4
    · have e : mapL (fun d => eBin dInS (eVar 1) (eC c_LETTERS) [some (.str s), some d]) (signsF s) = .ok (.list (s.cps.toList.map fun c => .bool (!(Builtin.Str.occurrences lets ⟨#[c]⟩ 0 lets.length 1).isEmpty))) := by
        unfold signsF
        refine mapL_ok (fun c _ => ?_) (by show s.cps.toList.length ≤ _; rw [Array.length_toList]; exact hs)
        simp [eBin, eVar, eC, dInS, c_LETTERS, lets]
      simp [runB, fb_is_name, entry, sSeq, sIf, sRet, sNil, bOr, bC, bNot, bVal, eUn, eChain, eVar, eC, eCall, aAll, isi_str, is_str, g, c_MOST_LETTERS]
      have h1' : (1 : Int) ≤ (s.length : Int) := by omega
      have h4' : (s.length : Int) ≤ 4 := by omega
      simp [h1', h4', h1, h4, sNil, sRet, eCall, aAll, eLc_N, iSeq, eVar, itemsOf, e, all_map]
    · simp [runB, fb_is_name, entry, sSeq, sIf, sRet, sNil, bOr, bC, bNot, bVal, eUn, eChain, eVar, eC, eCall, aAll, isi_str, is_str, g, c_MOST_LETTERS]
      have h1' : (1 : Int) ≤ (s.length : Int) := by omega
      have h4' : ¬ (s.length : Int) ≤ 4 := by omega
      simp [h1', h4', h1, h4, sRet, eC]
  · simp [runB, fb_is_name, entry, sSeq, sIf, sRet, sNil, bOr, bC, bNot, bVal, eUn, eChain, eVar, eC, eCall, aAll, isi_str, is_str, g, c_MOST_LETTERS]
    have h1' : ¬ (1 : Int) ≤ (s.length : Int) := by omega
    simp [h1', h1, sRet, eC]
theorem nm_of (s : String) (h : nmB (Str.ofString s) = true) : nmOk s := by
  unfold nmOk
  rw [name_of _ (by
    unfold nmB at h
    simp only [Bool.and_eq_true, decide_eq_true_eq] at h
    omega), h]
theorem nm_w : nmOk "w" := nm_of _ (by decide +kernel)
theorem nm_a : nmOk "a" := nm_of _ (by decide +kernel)
theorem room_ok (x : String) (n : Int) (hx : nmOk x) (h1 : 1 ≤ n) (h2 : n ≤ 16) : g_is_room [.tuple [.str (Str.ofString x), .int n]] = .ok (.bool true) := by
  unfold nmOk at hx
  have c := count_ok n 1 16
  rw [show (decide ((1 : Int) ≤ n) && decide (n ≤ 16)) = true by simp; omega] at c
  rw [g_is_room_eq]
  simp [runB, fb_is_room, entry, sRet, eAnd, bVal, eUn, eBin, eVar, eC, eCall, aAll, isi_tuple, is_tuple, hx, c, c_MOST_SIZE]
/-! houses -/
abbrev Hs := List (String × Nat)
def encR (p : String × Nat) : PyData := .tuple [.str (Str.ofString p.1), .int (p.2 : Int)]
structure HouseOk (hs : Hs) : Prop where
  ne : 1 ≤ hs.length
  le : hs.length ≤ 4
  nm : ∀ p ∈ hs, nmB (Str.ofString p.1) = true
  sz : ∀ p ∈ hs, 1 ≤ p.2 ∧ p.2 ≤ 16
  pr : (hs.map (·.2)).foldl (· * ·) 1 ≤ 64
  up : ∀ p ∈ hs.zip (hs.drop 1), dGeS (.str (Str.ofString p.1.1)) (.str (Str.ofString p.2.1)) = .ok (.bool false)
theorem hcut1 (xs : List PyData) : cutD xs (some 1) none = xs.drop 1 := by
  unfold cutD
  rw [HT.sIx_none]
  have e : HT.sIx xs.length 0 (some 1) = min 1 xs.length := rfl
  rw [e]
  rcases Nat.lt_or_ge xs.length 1 with h | h
  · have : xs = [] := List.eq_nil_of_length_eq_zero (by omega)
    subst this
    rfl
  · rw [show min 1 xs.length = 1 by omega, ← List.length_drop, List.take_length]
theorem house_ok {hs : Hs} (H : HouseOk hs) : g_need_house [.list (hs.map encR)] = .ok .none := by
  have h1 := H.ne
  have h2 := H.le
  have e1 : mapL (fun d => g_is_room [d]) (hs.map encR) = .ok (.list (hs.map fun _ => .bool true)) := mapL_ok (fun p hp => room_ok p.1 p.2 (nm_of _ (H.nm p hp)) (by have := H.sz p hp; omega) (by have := H.sz p hp; omega)) (by omega)
  have e2 := all_map (fun _ : String × Nat => true) hs
  rw [show hs.all (fun _ => true) = true by simp] at e2
  obtain ⟨e, f1, a, b, z⟩ := forF_fold (tg := gT [2, 3]) (body := lp_need_house_0) encR (fun m (p : String × Nat) => m * p.2) (fun m env => ∃ x y, env = [.pu (.list (hs.map encR)), .pu (.int ((m : Nat) : Int)), x, y, .no, .no]) hs 1 [.pu (.list (hs.map encR)), .pu (.int 1), .no, .no, .no, .no] ⟨_, _, rfl⟩ (fun m env ⟨x, y, he⟩ p hp => by
    subst he
    refine ⟨_, [.pu (.list (hs.map encR)), .pu (.int ((m * p.2 : Nat) : Int)), .pu (.str (Str.ofString p.1)), .pu (.int (p.2 : Int)), .no, .no], rfl, ?_, _, _, rfl⟩
    have := H.sz p hp
    simp [lp_need_house_0, sAsg, evM, eBin, eVar, dMul_int, mulOk_r (a := (m : Int)) (b := (p.2 : Int)) (by omega) (by omega)])
  subst z
  generalize hM : List.foldl (fun m (p : String × Nat) => m * p.2) 1 hs = M at f1
  have hM2 : M ≤ 64 := by
    have := H.pr
    rw [List.foldl_map, hM] at this
    exact this
  obtain ⟨e, f2, c, d, z⟩ := forF_fold (tg := gT [4, 5]) (body := lp_need_house_1) (fun p : (String × Nat) × (String × Nat) => .tuple [encR p.1, encR p.2]) (fun (u : Unit) _ => u) (fun _ env => ∃ x y, env = [.pu (.list (hs.map encR)), .pu (.int (M : Int)), a, b, x, y]) (hs.zip (hs.drop 1)) () [.pu (.list (hs.map encR)), .pu (.int (M : Int)), a, b, .no, .no] ⟨_, _, rfl⟩ (fun u env ⟨x, y, he⟩ p hp => by
    subst he
    have hu := H.up p hp
    refine ⟨_, [.pu (.list (hs.map encR)), .pu (.int (M : Int)), a, b, .pu (encR p.1), .pu (encR p.2)], rfl, ?_, _, _, rfl⟩
    simp [lp_need_house_1, sIf, sNil, bVal, eBin, eVar, eC, encR, hu])
  subst z
  have ez : zip2 [.list (hs.map encR), .list ((hs.map encR).drop 1)] = .ok ((hs.zip (hs.drop 1)).map fun p => .tuple [encR p.1, encR p.2]) := by
    rw [← List.map_drop]
    exact zip2_map encR encR hs (hs.drop 1)
  rw [g_need_house_eq]
  have l1 : (1 : Int) ≤ ((hs.map encR).length : Int) := by rw [List.length_map]; omega
  have l2 : ((hs.map encR).length : Int) ≤ 4 := by rw [List.length_map]; omega
  have l3 : ¬ (64 : Int) < (M : Int) := by omega
  generalize (hs.map encR) = L at *
  generalize (hs.zip (hs.drop 1)) = Z at *
  have es : dSl (.list L) (some 1) none = .ok (.list (L.drop 1)) := by
    unfold dSl
    dsimp only
    rw [hcut1]
  unfold fb_need_house
  unfold runB entry
  refine congrArg Out.res (?_ : _ = Out.nx [.pu (.list L), .pu (.int (M : Int)), a, b, c, d])
  refine seq_nx (e := [.pu (.list L), .no, .no, .no, .no, .no]) (by
    simp [sIf, sNil, bOr, bC, bNot, bVal, eUn, eChain, eVar, eC, eCall, aAll, isi_list, is_list, eLc_N, iSeq, itemsOf, eBin, c_MOST_NAMES, l1, l2, e1, e2] 
    ) ?_
  refine seq_nx (e := [.pu (.list L), .pu (.int 1), .no, .no, .no, .no]) (by simp [sAsg, evM, eC]) ?_
  refine seq_nx (e := [.pu (.list L), .pu (.int (M : Int)), a, b, .no, .no]) (by simpa [sFor, iSeq, eVar, itemsOf] using f1) ?_
  refine seq_nx (e := [.pu (.list L), .pu (.int (M : Int)), a, b, c, d]) (by
    simp only [sFor, iCall, aAll, eVar, eSl, eOpt, eC]
    simp [es]
    simp only [List.drop_one] at ez
    rw [ez]
    exact f2) ?_
  simp [sIf, sNil, bVal, eBin, eVar, eC, c_MOST_BEGINNINGS, l3]
/-! the names at the beginning -/
def nms (hs : Hs) (bg : List Nat) : List (PyData × PyData) := dMerge [] ((hs.zip bg).map fun p => (.inr (Str.ofString p.1.1), .int (p.2 : Int)))
theorem prs_ok : ∀ l : List ((String × Nat) × Nat), prsOf (l.map fun p => .tuple [.str (Str.ofString p.1.1), .int (p.2 : Int)]) = some (l.map fun p => (.inr (Str.ofString p.1.1), .int (p.2 : Int)))
  | [] => rfl
  | p :: l => by
    rw [List.map_cons, List.map_cons]
    unfold prsOf
    rw [prs_ok l]
    rfl
theorem zipM_map {α β : Type} (f : α → PyData) (g : β → PyData) (xs : List α) (ys : List β) : zipM [.list (xs.map f), .tuple (ys.map g)] = .ok ((xs.zip ys).map fun p => .tuple [f p.1, g p.2]) := by
  show R.ok (zipF _ _) = _
  rw [zipF_map]
theorem names_ok (P : PyData) (hs : Hs) (bg : List Nat) (hl : hs.length ≤ 900000) : fe_ways_of [some P, some (.list (hs.map encR)), some (.tuple (bg.map fun n : Nat => .int (n : Int))), none, none, none] = .ok (.dict (nms hs bg)) := by
  unfold fe_ways_of
  have e := eLc_ok (tg := cT [4, 5]) (fi := iCall zipM [(eVar 1), (eVar 2)]) (tt := bYes) (te := (eTup [(eBin dIx (eVar 4) (eC (.int 0))), (eVar 5)])) (env := [some P, some (.list (hs.map encR)), some (.tuple (bg.map fun n : Nat => .int (n : Int))), none, none, none])
    (fun p : (String × Nat) × Nat => .tuple [encR p.1, .int (p.2 : Int)]) (fun p => .tuple [.str (Str.ofString p.1.1), .int (p.2 : Int)]) (hs.zip bg) (by
      have := zipM_map encR (fun n : Nat => .int (n : Int)) hs bg
      simp [iCall, aAll, eVar, this]) (by rw [List.length_zip]; omega) (fun p _ => ⟨_, rfl, rfl, by simp [encR, eTup, aAll, eBin, eVar, eC, cT, setE]⟩)
  unfold eCall
  simp only [aAll]
  rw [e]
  show gDictP [.list _] = _
  unfold gDictP
  dsimp only
  rw [prs_ok]
  rfl
theorem merge_ok : ∀ (ps : List (Key × PyData)) (kvs : List (PyData × PyData)), mkd kvs = false → NumsOk kvs → (∀ p ∈ ps, ∃ i : Int, p.2 = .int i ∧ 0 ≤ i ∧ i < 1000) → mkd (dMerge kvs ps) = false ∧ NumsOk (dMerge kvs ps) ∧ (dMerge kvs ps).length ≤ kvs.length + ps.length
  | [], kvs, h1, h2, _ => ⟨h1, h2, Nat.le_refl _⟩
  | p :: ps, kvs, h1, h2, h3 => by
    obtain ⟨i, e, i0, i1⟩ := h3 p List.mem_cons_self
    have h2' := h2.put p.1 i0 i1
    rw [← e] at h2'
    obtain ⟨a, b, c⟩ := merge_ok ps (dPut kvs p.1 p.2) (put_mkd h1) h2' fun q hq => h3 q (List.mem_cons_of_mem _ hq)
    refine ⟨a, b, Nat.le_trans c ?_⟩
    have := put_len kvs p.1 p.2
    rw [List.length_cons]
    omega
theorem nums_nil : NumsOk [] := fun k d h => by cases h
theorem nms_ok {hs : Hs} {bg : List Nat} (hl : hs.length ≤ 4) (hb : ∀ n ∈ bg, n < 1000) : mkd (nms hs bg) = false ∧ NumsOk (nms hs bg) ∧ (nms hs bg).length ≤ 8 := by
  obtain ⟨a, b, c⟩ := merge_ok ((hs.zip bg).map fun p => (.inr (Str.ofString p.1.1), .int (p.2 : Int))) [] rfl nums_nil (fun p hp => by
    obtain ⟨q, hq, rfl⟩ := List.mem_map.mp hp
    have := hb q.2 (List.of_mem_zip hq).2
    exact ⟨_, rfl, by omega, by omega⟩)
  refine ⟨a, b, Nat.le_trans c ?_⟩
  rw [List.length_map, List.length_zip]
  simp
  omega
/-- a program that is in order -/
structure Bk.Ok (b : Bk) : Prop where
  wf : b.wf
  nm : b.nm
  deep : b.deep ≤ 12
  dp : b.dp ≤ 11
  size : b.size ≤ 800
  cost : b.cost ≤ 500
theorem outs_ok {b : Bk} (h : b.Ok) {hs : Hs} (H : HouseOk hs) {bg : List Nat} (hb : ∀ n ∈ bg, n < 1000) : g_outcomes [.tuple b.encs, .list (hs.map encR), .tuple (bg.map fun n : Nat => .int (n : Int))] = outsOf (b.run ⟨nms hs bg, [], 0, 1⟩) := by
  have h4 := H.le
  obtain ⟨a, c, d⟩ := nms_ok (hs := hs) (bg := bg) h4 hb
  exact outcomes_ok b _ _ (nms hs bg) h.wf h.nm h.deep h.dp h.size h.cost (house_ok H) (names_ok _ hs bg (by omega)) a c d
def s0 : St := ⟨nms [("a", 2)] [1], [], 0, 1⟩
theorem av_s0 : av s0 = 1 := by
  unfold av s0 Tm.val nms
  simp [dMerge, look_put]
theorem hs_a : HouseOk [("a", 2)] := ⟨by decide, by decide, by decide +kernel, by simp, by decide, by simp⟩
theorem told_ok {b : Bk} (h : b.Ok) : g__law_told [.tuple b.encs] = .ok (if 256 < (b.run s0).length then .str "TooMany" else .int ((shAll [] (b.run s0)).length : Int)) := by
  have e : g_outcomes [.tuple b.encs, .list [.tuple [.str "a", .int 2]], .tuple [.int 1]] = outsOf (b.run s0) := outs_ok h hs_a (bg := [1]) (by simp)
  unfold outsOf at e
  rw [g__law_told_eq]
  by_cases hz : 256 < (b.run s0).length
  · rw [if_pos hz] at e ⊢
    simp [runB, fb__law_told, entry, sTry, sRet, eCall, aAll, eVar, eLst, eTup, eC, e, wdL]
  · rw [if_neg hz] at e ⊢
    have hl : (shEnd (shAll [] (b.run s0))).length = (shAll [] (b.run s0)).length := by unfold shEnd; rw [List.length_map, shKeys_len]
    simp [runB, fb__law_told, entry, sTry, sRet, eCall, aAll, eVar, eLst, eTup, eC, e, hl]
theorem tm_wf (x : String) : (Tm.name x).wf ∧ (Tm.name x).deep < 14 := ⟨trivial, by simp [Tm.deep]⟩
/-! blocks of draws are in order -/
structure Lt (b : Bk) (z y k : Nat) : Prop where
  wf : b.wf
  nm : b.nm
  deep : b.deep ≤ k
  dp : b.dp ≤ k
  size : b.size ≤ z
  cost : b.cost ≤ y
theorem Lt.ok {b : Bk} {z y k : Nat} (h : Lt b z y k) (hz : z ≤ 400) (hy : y ≤ 400) (hk : k ≤ 10) : b.Ok := ⟨h.wf, h.nm, by have := h.deep; omega, by have := h.dp; omega, by have := h.size; omega, by have := h.cost; omega⟩
theorem lt_nil (k : Nat) : Lt .nil 0 0 k := ⟨by simp [Bk.wf], by simp [Bk.nm], by simp [Bk.deep], by simp [Bk.dp], by simp [Bk.size], by simp [Bk.cost]⟩
theorem Lt.mono {b : Bk} {z y k k' : Nat} (h : Lt b z y k) (e : k ≤ k') : Lt b z y k' := ⟨h.wf, h.nm, Nat.le_trans h.deep e, Nat.le_trans h.dp e, h.size, h.cost⟩
theorem lt_draw {D : Bk} {z y k : Nat} (i : Lt D z y k) (m : Nat) (h : 1 ≤ m ∧ m ≤ 6) : Lt (.cons (.draw "w" m) D) (z + 1) (y + 1) k := by
  refine ⟨?_, ?_, ?_, ?_, ?_, ?_⟩
  · simp only [Bk.wf, Dd.wf]; exact ⟨h, i.wf⟩
  · simp only [Bk.nm, Dd.nm]; exact ⟨nm_w, i.nm⟩
  · simp only [Bk.deep, Dd.deep]; have := i.deep; omega
  · simp only [Bk.dp, Dd.dp]; have := i.dp; omega
  · simp only [Bk.size, Dd.size]; have := i.size; omega
  · simp only [Bk.cost, Dd.cost]; have := i.cost; omega
theorem lt_draws : ∀ ms : List Nat, (∀ m ∈ ms, 1 ≤ m ∧ m ≤ 6) → Lt (dB ms .nil) ms.length ms.length 0
  | [], _ => lt_nil 0
  | m :: ms, h => lt_draw (lt_draws ms fun x hx => h x (List.mem_cons_of_mem _ hx)) m (h m List.mem_cons_self)
theorem lt_if {D : Bk} {z y k : Nat} (i : Lt D z y k) (x : String) (hx : nmOk x) : Lt (.cons (.iff (.name x) D .nil) .nil) (z + 2) (y + 1) (k + 1) := by
  refine ⟨?_, ?_, ?_, ?_, ?_, ?_⟩
  · simp only [Bk.wf, Dd.wf]; exact ⟨⟨tm_wf x, i.wf, trivial⟩, trivial⟩
  · simp only [Bk.nm, Dd.nm, Tm.nm]; exact ⟨⟨hx, i.nm, trivial⟩, trivial⟩
  · simp only [Bk.deep, Dd.deep]; have := i.deep; omega
  · simp only [Bk.dp, Dd.dp, Tm.deep]; have := i.dp; omega
  · simp only [Bk.size, Dd.size, Tm.size]; have := i.size; omega
  · simp only [Bk.cost, Dd.cost]; have := i.cost; omega
theorem lt_again {D : Bk} {z y k : Nat} (i : Lt D z y k) : Lt (.cons (.again 1 D) .nil) (z + 2) (y + 1) (k + 1) := by
  refine ⟨?_, ?_, ?_, ?_, ?_, ?_⟩
  · simp only [Bk.wf, Dd.wf]; exact ⟨⟨by decide, i.wf⟩, trivial⟩
  · simp only [Bk.nm, Dd.nm]; exact ⟨i.nm, trivial⟩
  · simp only [Bk.deep, Dd.deep]; have := i.deep; omega
  · simp only [Bk.dp, Dd.dp]; have := i.dp; omega
  · simp only [Bk.size, Dd.size]; have := i.size; omega
  · simp only [Bk.cost, Dd.cost]; have := i.cost; omega
theorem lt_show (k : Nat) : Lt (.cons (.shw (.name "w")) .nil) 2 1 (k + 1) := by
  refine ⟨?_, ?_, ?_, ?_, ?_, ?_⟩
  · simp only [Bk.wf, Dd.wf]; exact ⟨tm_wf _, trivial⟩
  · simp only [Bk.nm, Dd.nm, Tm.nm]; exact ⟨nm_w, trivial⟩
  · simp only [Bk.deep, Dd.deep]; omega
  · simp only [Bk.dp, Dd.dp, Tm.deep]; omega
  · simp only [Bk.size, Dd.size, Tm.size]; omega
  · simp only [Bk.cost, Dd.cost]; omega
theorem lt_app : ∀ {a b : Bk} {z y z' y' k : Nat}, Lt a z y k → Lt b z' y' k → Lt (a.app b) (z + z') (y + y') k
  | .nil, b, z, y, z', y', k, _, j => ⟨j.wf, j.nm, j.deep, j.dp, by have := j.size; show b.size ≤ _; omega, by have := j.cost; show b.cost ≤ _; omega⟩
  | .cons d a, b, z, y, z', y', k, i, j => by
    obtain ⟨i1, i2, i3, i4, i5, i6⟩ := i
    simp only [Bk.wf, Bk.nm, Bk.deep, Bk.dp, Bk.size, Bk.cost] at i1 i2 i3 i4 i5 i6
    have t := lt_app (a := a) (z := z - d.size) (y := y - d.cost) (k := k) ⟨i1.2, i2.2, by omega, by omega, by omega, by omega⟩ j
    obtain ⟨t1, t2, t3, t4, t5, t6⟩ := t
    refine ⟨?_, ?_, ?_, ?_, ?_, ?_⟩
    · simp only [Bk.app, Bk.wf]; exact ⟨i1.1, t1⟩
    · simp only [Bk.app, Bk.nm]; exact ⟨i2.1, t2⟩
    · simp only [Bk.app, Bk.deep]; omega
    · simp only [Bk.app, Bk.dp]; omega
    · simp only [Bk.app, Bk.size]; omega
    · simp only [Bk.app, Bk.cost]; omega
/-! the three that are told -/
section
variable {D : Bk} {P n last z y : Nat} (F : Fit D P n last) (L : Lt D z y 1) (hz : z ≤ 100) (hy : y ≤ 100)
include F L hz hy
theorem told1 (hl : 1 ≤ last) : g__law_told [.tuple (D.encs ++ [.tuple [.str "show", .tuple [.str "name", .str "w"]]])] = .ok (if 256 < P then .str "TooMany" else .int (last : Int)) := by
  have e := told_ok ((lt_app L (lt_show 0)).ok (by omega) (by omega) (by omega))
  obtain ⟨h1, h2⟩ := fit_show F av_s0
  rw [h1, h2 hl, encs_app] at e
  exact e
theorem told2 (hp : 1 ≤ P) : g__law_told [.tuple D.encs] = .ok (if 256 < P then .str "TooMany" else .int 1) := by
  have e := told_ok (L.ok (by omega) (by omega) (by omega))
  rw [F.len _ av_s0, fit_alone F av_s0 hp] at e
  exact e
theorem told3 (hp : 1 ≤ P) (hn : 1 ≤ n) : g__law_told [.tuple [.tuple [.str "draw", .str "w", .int 2], .tuple [.str "if", .tuple [.str "name", .str "w"], .tuple D.encs, .tuple []]]] = .ok (if 256 < P + 1 then .str "TooMany" else .int 2) := by
  have e := told_ok ((lt_draw (lt_if L "w" nm_w) 2 (by decide)).ok (by omega) (by omega) (by omega))
  obtain ⟨h1, h2⟩ := fit_more F av_s0 hp hn
  rw [h1, h2] at e
  simp only [Bk.encs, Dd.enc, Tm.enc] at e
  exact e
end
/-! the turns of a law -/
theorem law_rounds (len K : Nat) (hK : 1 ≤ K) : ∃ r : Nat, r ≤ K ∧ 1 ≤ r ∧ (gMin2 [.int K, .int len]).bind (fun x => gMax2 [.int 1, x]) = .ok (.int (r : Int)) := by
  refine ⟨max 1 (min K len), by omega, by omega, ?_⟩
  rw [gMin2_int, R.bind_ok, gMax2_int]
  congr 2
  split <;> split <;> omega
noncomputable def celV (ns : List Int) (k : Int) : Int := if h : ns.length ≤ 63 ∧ 0 ≤ k then Classical.choose (cell_ok ns h.1 k h.2) else 0
def tab : List (List Nat) := [[4, 4, 4, 4], [2, 2, 2, 2, 2, 2, 2, 2], [6, 6, 6], [5, 5, 5, 2], [5, 5, 5, 3], [3, 3, 3, 3, 3], [4, 4, 4, 5], [6, 6, 6, 1], [2, 4, 4, 4, 2], [6, 6, 4, 2], [1, 1, 1, 1, 4, 4, 4, 4]]
abbrev iD (n : Nat) : PyData := .int (n : Int)
abbrev rowD (ms : List Nat) : PyData := .list (ms.map iD)
theorem tab_ok : ∀ ms ∈ tab, (∀ m ∈ ms, 1 ≤ m ∧ m ≤ 6) ∧ ms ≠ [] ∧ ms.length ≤ 8 := by decide
theorem prd_pos : ∀ ms : List Nat, (∀ m ∈ ms, 1 ≤ m ∧ m ≤ 6) → 1 ≤ prd ms
  | [], _ => Nat.le_refl _
  | m :: ms, h => Nat.mul_pos (h m List.mem_cons_self).1 (prd_pos ms fun x hx => h x (List.mem_cons_of_mem _ hx))
theorem prd_fold : ∀ (ms : List Nat) (b : Nat), ms.foldl (fun b m => b * m) b = b * prd ms
  | [], b => by simp [prd]
  | m :: ms, b => by rw [List.foldl_cons, prd_fold ms]; simp [prd, Nat.mul_assoc]
theorem encs_draws : ∀ ms : List Nat, (dB ms .nil).encs = ms.map fun m : Nat => .tuple [.str "draw", .str "w", iD m]
  | [] => by simp [dB, Bk.encs]
  | m :: ms => by rw [dB, Bk.encs, encs_draws ms]; simp [Dd.enc]
theorem dIx_last (f : Nat → PyData) (m : Nat) (ms : List Nat) : dIx (.list ((m :: ms).map f)) (.int (-1)) = .ok (f ((m :: ms).getLast (by simp))) := by
  have e : atI ((m :: ms).map f) (-1) = some (f ((m :: ms).getLast (by simp))) := by
    have e1 : ixN (List.map f (m :: ms)).length (-1) = some ms.length := by
      unfold ixN
      simp
      omega
    unfold atI
    rw [e1, List.getLast_eq_getElem]
    show ((m :: ms).map f)[ms.length]? = _
    rw [List.getElem?_map]
    simp
  unfold dIx
  dsimp only
  rw [e]
mutual
theorem enc_len : ∀ d : Dd, 1 ≤ d.size
  | .put _ _ => by simp only [Dd.size]; omega
  | .shw _ => by simp only [Dd.size]; omega
  | .iff _ _ _ => by simp only [Dd.size]; omega
  | .again _ _ => by simp only [Dd.size]; omega
  | .draw _ _ => by simp only [Dd.size]; omega
theorem encs_len : ∀ b : Bk, b.encs.length ≤ b.size
  | .nil => by simp [Bk.encs]
  | .cons d b => by
    have := enc_len d
    have := encs_len b
    simp only [Bk.encs, Bk.size, List.length_cons]
    omega
end
/-- what the law's deeds are: in a row, within an if, within an again -/
theorem deeds_ok (ms : List Nat) (h : ∀ m ∈ ms, 1 ≤ m ∧ m ≤ 6) (hne : ms ≠ []) (hl : ms.length ≤ 8) : ∃ last : Nat, dIx (rowD ms) (.int (-1)) = .ok (iD last) ∧ 1 ≤ last ∧
    (∃ n z y, 1 ≤ n ∧ z ≤ 100 ∧ y ≤ 100 ∧ Fit (dB ms .nil) (prd ms) n last ∧ Lt (dB ms .nil) z y 1) ∧
    (∃ n z y, 1 ≤ n ∧ z ≤ 100 ∧ y ≤ 100 ∧ Fit (.cons (.iff (.name "a") (dB ms .nil) .nil) .nil) (prd ms) n last ∧ Lt (.cons (.iff (.name "a") (dB ms .nil) .nil) .nil) z y 1) ∧
    (∃ n z y, 1 ≤ n ∧ z ≤ 100 ∧ y ≤ 100 ∧ Fit (.cons (.again 1 (dB ms .nil)) .nil) (prd ms) n last ∧ Lt (.cons (.again 1 (dB ms .nil)) .nil) z y 1) := by
  cases ms with
  | nil => exact absurd rfl hne
  | cons m ms =>
    have F := fit_draws ms m fun x hx => (h x hx).1
    have L := lt_draws (m :: ms) h
    refine ⟨(m :: ms).getLast (by simp), ?_, (h _ (List.getLast_mem _)).1, ⟨_, _, _, by omega, by omega, by omega, F, L.mono (by omega)⟩, ⟨_, _, _, by omega, ?_, ?_, fit_if F, lt_if L "a" nm_a⟩, ⟨_, _, _, by omega, ?_, ?_, fit_again F, lt_again L⟩⟩
    · exact dIx_last _ m ms
    all_goals (simp only [List.length_cons] at hl ⊢; omega)
theorem turn_ok (ns : List Int) (hl : ns.length ≤ 63) (k : Int) (hk : 0 ≤ k) (x2 x3 x4 x5 x6 x7 x8 x9 : Sl) : ∃ y1 y2 y3 y4 y5 y6 y7 y8 y9, lp_law_1 [.pu (.list (ns.map PyData.int)), .pu (.int k), x2, x3, x4, x5, x6, x7, x8, x9] = .nx [.pu (.list (ns.map PyData.int)), y1, y2, y3, y4, y5, y6, y7, y8, y9] := by
  obtain ⟨c, hc⟩ := cell_ok ns hl k hk
  obtain ⟨m, hm, m0, m1⟩ := drawn_ok c k
  obtain ⟨row, hr, hx⟩ := dIx_any (xs := tab.map rowD) (i := m % 11) (by omega) (by simp [tab]; omega)
  obtain ⟨ms, hms, rfl⟩ := List.mem_map.mp hx
  obtain ⟨t1, t2, t3⟩ := tab_ok ms hms
  obtain ⟨last, e8, hl1, ⟨n0, z0, y0, hn0, hz0, hy0, F0, L0⟩, ⟨n1, z1, y1, hn1, hz1, hy1, F1, L1⟩, ⟨n2, z2, y2, hn2, hz2, hy2, F2, L2⟩⟩ := deeds_ok ms t1 t2 t3
  have hp := prd_pos ms t1
  generalize hP : prd ms = P at *
  generalize hS : (.list (ns.map PyData.int) : PyData) = S at *
  -- the product
  obtain ⟨e, f1, z, he, _⟩ := forF_fold (tg := gN 6) (body := lp_law_0) iD (fun b m => b * m) (fun b env => ∃ z, env = [.pu S, .pu (.int k), .pu (.int m), .pu (.list (tab.map rowD)), .pu (rowD ms), .pu (iD b), z, x7, x8, x9] ∧ True) ms 1 [.pu S, .pu (.int k), .pu (.int m), .pu (.list (tab.map rowD)), .pu (rowD ms), .pu (iD 1), x6, x7, x8, x9] ⟨_, rfl, trivial⟩ (fun b env ⟨z, he, _⟩ x hx => by
    subst he
    have := t1 x hx
    refine ⟨_, [.pu S, .pu (.int k), .pu (.int m), .pu (.list (tab.map rowD)), .pu (rowD ms), .pu (iD (b * x)), .pu (iD x), x7, x8, x9], rfl, ?_, _, rfl, trivial⟩
    simp [lp_law_0, sAsg, evM, eBin, eVar, dMul_int, mulOk_r (a := (b : Int)) (b := (x : Int)) (by omega) (by omega)])
  rw [prd_fold, hP, Nat.one_mul] at he
  subst he
  -- the draws
  have ed : mapL (fun d => eTup [eC (.str "draw"), eC (.str "w"), eVar 6] [some S, some (.int k), some (.int m), some (.list (tab.map rowD)), some (rowD ms), some (iD P), some d, x7.pur, x8.pur, x9.pur]) (ms.map iD) = .ok (.list (dB ms .nil).encs) := by
    rw [encs_draws]
    exact mapL_ok (fun x _ => by simp [eTup, aAll, eC, eVar]) (by omega)
  -- whatever the deeds are
  have rest : ∀ (D : Bk) (n zz yy : Nat), 1 ≤ n → zz ≤ 100 → yy ≤ 100 → Fit D P n last → Lt D zz yy 1 → ∃ y1 y2 y3 y4 y5 y6 y7 y8 y9, (sSeq (sAsg .P 8 (eBin dIx (eVar 4) (eUn dNeg (eC (.int 1))))) (sSeq (sIf (bVal (eBin dNe (eCall g__law_told [(eBin dAdd (eVar 7) (eTup [(eTup [(eC (.str "show")), (eTup [(eC (.str "name")), (eC (.str "w"))])])]))]) (eBin dIx (eLst [(eVar 8), (eC (.str "TooMany"))]) (eCall gInt [(eBin dGt (eVar 5) (eC (.int 256)))])))) (sRet (eC (.bool false))) sNil) (sSeq (sIf (bVal (eBin dNe (eCall g__law_told [(eVar 7)]) (eBin dIx (eLst [(eC (.int 1)), (eC (.str "TooMany"))]) (eCall gInt [(eBin dGt (eVar 5) (eC (.int 256)))])))) (sRet (eC (.bool false))) sNil) (sSeq (sAsg .P 9 (eTup [(eTup [(eC (.str "draw")), (eC (.str "w")), (eC (.int 2))]), (eTup [(eC (.str "if")), (eTup [(eC (.str "name")), (eC (.str "w"))]), (eVar 7), (eTup [])])])) (sIf (bVal (eBin dNe (eCall g__law_told [(eVar 9)]) (eBin dIx (eLst [(eC (.int 2)), (eC (.str "TooMany"))]) (eCall gInt [(eBin dGt (eBin dAdd (eVar 5) (eC (.int 1))) (eC (.int 256)))])))) (sRet (eC (.bool false))) sNil))))) [.pu S, .pu (.int k), .pu (.int m), .pu (.list (tab.map rowD)), .pu (rowD ms), .pu (iD P), z, .pu (.tuple D.encs), x8, x9] = .nx [.pu S, y1, y2, y3, y4, y5, y6, y7, y8, y9] := by
    intro D n zz yy hn hzz hyy F L
    have a1 := told1 F L hzz hyy hl1
    have a2 := told2 F L hzz hyy hp
    have a3 := told3 F L hzz hyy hp hn
    have ad : dAdd (.tuple D.encs) (.tuple [.tuple [.str "show", .tuple [.str "name", .str "w"]]]) = .ok (.tuple (D.encs ++ [.tuple [.str "show", .tuple [.str "name", .str "w"]]])) := dAdd_tuple (by
      have := encs_len D
      have := L.size
      simp
      omega)
    generalize D.encs = E at *
    refine ⟨.pu (.int k), .pu (.int m), .pu (.list (tab.map rowD)), .pu (rowD ms), .pu (iD P), z, .pu (.tuple E), .pu (iD last), .pu (.tuple [.tuple [.str "draw", .str "w", .int 2], .tuple [.str "if", .tuple [.str "name", .str "w"], .tuple E, .tuple []]]), ?_⟩
    generalize tab = tb at *
    generalize rowD ms = RW at *
    refine seq_nx (e := [.pu S, .pu (.int k), .pu (.int m), .pu (.list (tb.map rowD)), .pu RW, .pu (iD P), z, .pu (.tuple E), .pu (iD last), x9]) (by simp [sAsg, evM, eBin, eUn, eVar, eC, e8]) ?_
    refine seq_nx (e := [.pu S, .pu (.int k), .pu (.int m), .pu (.list (tb.map rowD)), .pu RW, .pu (iD P), z, .pu (.tuple E), .pu (iD last), x9]) (by
      by_cases hb : 256 < P
      · have hb' : (256 : Int) < (P : Int) := by omega
        rw [if_pos hb] at a1
        simp [sIf, sNil, bVal, eBin, eCall, aAll, eVar, eC, eLst, eTup, ad, a1, hb']
      · have hb' : ¬ (256 : Int) < (P : Int) := by omega
        rw [if_neg hb] at a1
        simp [sIf, sNil, bVal, eBin, eCall, aAll, eVar, eC, eLst, eTup, ad, a1, hb']) ?_
    refine seq_nx (e := [.pu S, .pu (.int k), .pu (.int m), .pu (.list (tb.map rowD)), .pu RW, .pu (iD P), z, .pu (.tuple E), .pu (iD last), x9]) (by
      by_cases hb : 256 < P
      · have hb' : (256 : Int) < (P : Int) := by omega
        rw [if_pos hb] at a2
        simp [sIf, sNil, bVal, eBin, eCall, aAll, eVar, eC, eLst, a2, hb']
      · have hb' : ¬ (256 : Int) < (P : Int) := by omega
        rw [if_neg hb] at a2
        simp [sIf, sNil, bVal, eBin, eCall, aAll, eVar, eC, eLst, a2, hb']) ?_
    refine seq_nx (e := [.pu S, .pu (.int k), .pu (.int m), .pu (.list (tb.map rowD)), .pu RW, .pu (iD P), z, .pu (.tuple E), .pu (iD last), .pu (.tuple [.tuple [.str "draw", .str "w", .int 2], .tuple [.str "if", .tuple [.str "name", .str "w"], .tuple E, .tuple []]])]) (by simp [sAsg, evM, eTup, aAll, eVar, eC]) ?_
    by_cases hb : 256 < P + 1
    · have hb' : (256 : Int) < (P : Int) + 1 := by omega
      rw [if_pos hb] at a3
      simp [sIf, sNil, bVal, eBin, eCall, aAll, eVar, eC, eLst, a3, hb']
    · have hb' : ¬ (256 : Int) < (P : Int) + 1 := by omega
      rw [if_neg hb] at a3
      simp [sIf, sNil, bVal, eBin, eCall, aAll, eVar, eC, eLst, a3, hb']
  have et : (.list (tab.map rowD) : PyData) = .list [.list [.int 4, .int 4, .int 4, .int 4], .list [.int 2, .int 2, .int 2, .int 2, .int 2, .int 2, .int 2, .int 2], .list [.int 6, .int 6, .int 6], .list [.int 5, .int 5, .int 5, .int 2], .list [.int 5, .int 5, .int 5, .int 3], .list [.int 3, .int 3, .int 3, .int 3, .int 3], .list [.int 4, .int 4, .int 4, .int 5], .list [.int 6, .int 6, .int 6, .int 1], .list [.int 2, .int 4, .int 4, .int 4, .int 2], .list [.int 6, .int 6, .int 4, .int 2], .list [.int 1, .int 1, .int 1, .int 1, .int 4, .int 4, .int 4, .int 4]] := rfl
  generalize hT : (.list (tab.map rowD) : PyData) = T at *
  have m16 : m / 16 % 3 = 0 ∨ m / 16 % 3 = 1 ∨ m / 16 % 3 = 2 := by omega
  have first : ∀ R : SF, sSeq (sAsg .P 2 (eCall g__law_drawn [(eCall g__law_cell [(eVar 0), (eVar 1)]), (eVar 1)])) R [.pu S, .pu (.int k), x2, x3, x4, x5, x6, x7, x8, x9] = R [.pu S, .pu (.int k), .pu (.int m), x3, x4, x5, x6, x7, x8, x9] := fun R => seq_nx (by simp [sAsg, evM, eCall, aAll, eVar, hc, hm]) rfl
  unfold lp_law_1
  rw [first]
  have s1 : ∀ (a b : List PyData), a.length + b.length ≤ 900000 → dAdd (.list a) (.list b) = .ok (.list (a ++ b)) := fun a b h => dAdd_list h
  have dv : dDiv (.int 257) (.int 64) = .ok (.int 4) := by rw [dDiv_int (divOk_small (by decide) (by decide))]; rfl
  have tail : ∀ (E : List PyData) (D : Bk), D.encs = E → True := fun _ _ _ => trivial
  rcases m16 with h16 | h16 | h16
  · obtain ⟨q1, q2, q3, q4, q5, q6, q7, q8, q9, q⟩ := rest _ n0 z0 y0 hn0 hz0 hy0 F0 L0
    refine ⟨q1, q2, q3, q4, q5, q6, q7, q8, q9, ?_⟩
    refine seq_nx (e := [.pu S, .pu (.int k), .pu (.int m), _, x4, x5, x6, x7, x8, x9]) (by simp [sAsg, evM, eLst, aAll, eC]; rfl) ?_
    refine seq_nx (e := [.pu S, .pu (.int k), .pu (.int m), _, x4, x5, x6, x7, x8, x9]) (by simp [sAsg, evM, eBin, eVar, eLst, aAll, eC, s1]; rfl) ?_
    refine seq_nx (e := [.pu S, .pu (.int k), .pu (.int m), _, x4, x5, x6, x7, x8, x9]) (by simp [sAsg, evM, eBin, eVar, eLst, aAll, eC, s1]; rfl) ?_
    refine seq_nx (e := [.pu S, .pu (.int k), .pu (.int m), .pu T, x4, x5, x6, x7, x8, x9]) (by simp [sAsg, evM, eBin, eVar, eLst, aAll, eC, s1, dv, et]) ?_
    refine seq_nx (e := [.pu S, .pu (.int k), .pu (.int m), .pu T, .pu (rowD ms), x5, x6, x7, x8, x9]) (by simp [sAsg, evM, eBin, eVar, eC, dMod_int, hr]) ?_
    refine seq_nx (e := [.pu S, .pu (.int k), .pu (.int m), .pu T, .pu (rowD ms), .pu (iD 1), x6, x7, x8, x9]) (by simp [sAsg, evM, eC]) ?_
    refine seq_nx (e := [.pu S, .pu (.int k), .pu (.int m), .pu T, .pu (rowD ms), .pu (iD P), z, x7, x8, x9]) (by simpa [sFor, iSeq, eVar, itemsOf] using f1) ?_
    refine seq_nx (e := [.pu S, .pu (.int k), .pu (.int m), .pu T, .pu (rowD ms), .pu (iD P), z, .pu (.tuple (dB ms .nil).encs), x8, x9]) (by simp [sAsg, evM, eCall, aAll, eLc_N, iSeq, eVar, itemsOf, ed, gTuple]) ?_
    refine seq_nx (e := [.pu S, .pu (.int k), .pu (.int m), .pu T, .pu (rowD ms), .pu (iD P), z, .pu (.tuple (dB ms .nil).encs), x8, x9]) (by simp [sIf, sNil, sAsg, evM, eTup, aAll, bVal, eBin, eVar, eC, dMod_int, dDiv_int, divOk_small, h16]) ?_
    refine seq_nx (e := [.pu S, .pu (.int k), .pu (.int m), .pu T, .pu (rowD ms), .pu (iD P), z, .pu (.tuple (dB ms .nil).encs), x8, x9]) (by simp [sIf, sNil, sAsg, evM, eTup, aAll, bVal, eBin, eVar, eC, dMod_int, dDiv_int, divOk_small, h16]) ?_
    exact q
  · obtain ⟨q1, q2, q3, q4, q5, q6, q7, q8, q9, q⟩ := rest _ n1 z1 y1 hn1 hz1 hy1 F1 L1
    refine ⟨q1, q2, q3, q4, q5, q6, q7, q8, q9, ?_⟩
    refine seq_nx (e := [.pu S, .pu (.int k), .pu (.int m), _, x4, x5, x6, x7, x8, x9]) (by simp [sAsg, evM, eLst, aAll, eC]; rfl) ?_
    refine seq_nx (e := [.pu S, .pu (.int k), .pu (.int m), _, x4, x5, x6, x7, x8, x9]) (by simp [sAsg, evM, eBin, eVar, eLst, aAll, eC, s1]; rfl) ?_
    refine seq_nx (e := [.pu S, .pu (.int k), .pu (.int m), _, x4, x5, x6, x7, x8, x9]) (by simp [sAsg, evM, eBin, eVar, eLst, aAll, eC, s1]; rfl) ?_
    refine seq_nx (e := [.pu S, .pu (.int k), .pu (.int m), .pu T, x4, x5, x6, x7, x8, x9]) (by simp [sAsg, evM, eBin, eVar, eLst, aAll, eC, s1, dv, et]) ?_
    refine seq_nx (e := [.pu S, .pu (.int k), .pu (.int m), .pu T, .pu (rowD ms), x5, x6, x7, x8, x9]) (by simp [sAsg, evM, eBin, eVar, eC, dMod_int, hr]) ?_
    refine seq_nx (e := [.pu S, .pu (.int k), .pu (.int m), .pu T, .pu (rowD ms), .pu (iD 1), x6, x7, x8, x9]) (by simp [sAsg, evM, eC]) ?_
    refine seq_nx (e := [.pu S, .pu (.int k), .pu (.int m), .pu T, .pu (rowD ms), .pu (iD P), z, x7, x8, x9]) (by simpa [sFor, iSeq, eVar, itemsOf] using f1) ?_
    refine seq_nx (e := [.pu S, .pu (.int k), .pu (.int m), .pu T, .pu (rowD ms), .pu (iD P), z, .pu (.tuple (dB ms .nil).encs), x8, x9]) (by simp [sAsg, evM, eCall, aAll, eLc_N, iSeq, eVar, itemsOf, ed, gTuple]) ?_
    refine seq_nx (e := [.pu S, .pu (.int k), .pu (.int m), .pu T, .pu (rowD ms), .pu (iD P), z, .pu (.tuple (Bk.cons (.iff (.name "a") (dB ms .nil) .nil) .nil).encs), x8, x9]) (by simp [sIf, sNil, sAsg, evM, eTup, aAll, bVal, eBin, eVar, eC, dMod_int, dDiv_int, divOk_small, h16, Bk.encs, Dd.enc, Tm.enc]) ?_
    refine seq_nx (e := [.pu S, .pu (.int k), .pu (.int m), .pu T, .pu (rowD ms), .pu (iD P), z, .pu (.tuple (Bk.cons (.iff (.name "a") (dB ms .nil) .nil) .nil).encs), x8, x9]) (by simp [sIf, sNil, sAsg, evM, eTup, aAll, bVal, eBin, eVar, eC, dMod_int, dDiv_int, divOk_small, h16]) ?_
    exact q
  · obtain ⟨q1, q2, q3, q4, q5, q6, q7, q8, q9, q⟩ := rest _ n2 z2 y2 hn2 hz2 hy2 F2 L2
    refine ⟨q1, q2, q3, q4, q5, q6, q7, q8, q9, ?_⟩
    refine seq_nx (e := [.pu S, .pu (.int k), .pu (.int m), _, x4, x5, x6, x7, x8, x9]) (by simp [sAsg, evM, eLst, aAll, eC]; rfl) ?_
    refine seq_nx (e := [.pu S, .pu (.int k), .pu (.int m), _, x4, x5, x6, x7, x8, x9]) (by simp [sAsg, evM, eBin, eVar, eLst, aAll, eC, s1]; rfl) ?_
    refine seq_nx (e := [.pu S, .pu (.int k), .pu (.int m), _, x4, x5, x6, x7, x8, x9]) (by simp [sAsg, evM, eBin, eVar, eLst, aAll, eC, s1]; rfl) ?_
    refine seq_nx (e := [.pu S, .pu (.int k), .pu (.int m), .pu T, x4, x5, x6, x7, x8, x9]) (by simp [sAsg, evM, eBin, eVar, eLst, aAll, eC, s1, dv, et]) ?_
    refine seq_nx (e := [.pu S, .pu (.int k), .pu (.int m), .pu T, .pu (rowD ms), x5, x6, x7, x8, x9]) (by simp [sAsg, evM, eBin, eVar, eC, dMod_int, hr]) ?_
    refine seq_nx (e := [.pu S, .pu (.int k), .pu (.int m), .pu T, .pu (rowD ms), .pu (iD 1), x6, x7, x8, x9]) (by simp [sAsg, evM, eC]) ?_
    refine seq_nx (e := [.pu S, .pu (.int k), .pu (.int m), .pu T, .pu (rowD ms), .pu (iD P), z, x7, x8, x9]) (by simpa [sFor, iSeq, eVar, itemsOf] using f1) ?_
    refine seq_nx (e := [.pu S, .pu (.int k), .pu (.int m), .pu T, .pu (rowD ms), .pu (iD P), z, .pu (.tuple (dB ms .nil).encs), x8, x9]) (by simp [sAsg, evM, eCall, aAll, eLc_N, iSeq, eVar, itemsOf, ed, gTuple]) ?_
    refine seq_nx (e := [.pu S, .pu (.int k), .pu (.int m), .pu T, .pu (rowD ms), .pu (iD P), z, .pu (.tuple (dB ms .nil).encs), x8, x9]) (by simp [sIf, sNil, sAsg, evM, eTup, aAll, bVal, eBin, eVar, eC, dMod_int, dDiv_int, divOk_small, h16]) ?_
    refine seq_nx (e := [.pu S, .pu (.int k), .pu (.int m), .pu T, .pu (rowD ms), .pu (iD P), z, .pu (.tuple (Bk.cons (.again 1 (dB ms .nil)) .nil).encs), x8, x9]) (by simp [sIf, sNil, sAsg, evM, eTup, aAll, bVal, eBin, eVar, eC, dMod_int, dDiv_int, divOk_small, h16, Bk.encs, Dd.enc, Tm.enc]) ?_
    exact q
theorem law_true (ns : List Int) (hl : ns.length ≤ 63) : g_law [.list (ns.map PyData.int)] = .ok (.bool true) := by
  obtain ⟨r, hr, hr1, er⟩ := law_rounds ns.length 4 (by decide)
  obtain ⟨e, f, y1, y2, y3, y4, y5, y6, y7, y8, y9, he⟩ := forF_inv (tg := gN 1) (body := lp_law_1) (fun env => ∃ y1 y2 y3 y4 y5 y6 y7 y8 y9, env = [.pu (.list (ns.map PyData.int)), y1, y2, y3, y4, y5, y6, y7, y8, y9]) (rngF 0 r) [.pu (.list (ns.map PyData.int)), .no, .no, .no, .no, .no, .no, .no, .no, .no] ⟨_, _, _, _, _, _, _, _, _, rfl⟩ (fun d hd env ⟨y1, y2, y3, y4, y5, y6, y7, y8, y9, he⟩ => by
    subst he
    obtain ⟨k, rfl, k0, _⟩ := mem_rngF hd
    obtain ⟨z1, z2, z3, z4, z5, z6, z7, z8, z9, hz⟩ := turn_ok ns hl k k0 y2 y3 y4 y5 y6 y7 y8 y9
    exact ⟨_, _, rfl, hz, _, _, _, _, _, _, _, _, _, rfl⟩)
  subst he
  have rg : rng1 [.int (r : Int)] = .ok (rngF 0 r) := rng1_nat r (by omega)
  have er' : (gMin2 [.int 4, .int ((ns.map PyData.int).length : Int)]).bind (fun x => gMax2 [.int 1, x]) = .ok (.int (r : Int)) := by rw [List.length_map]; exact er
  rw [gMin2_int, R.bind_ok] at er'
  rw [g_law_eq]
  generalize ns.map PyData.int = L at *
  unfold fb_law
  generalize lp_law_1 = bb at *
  simp only [gMax2_int] at er'
  simp [runB, entry, sSeq, sFor, iCall, eCall, aAll, eVar, eC, sRet] at er' ⊢
  simp only [er', rg]
  simp [f, sRet, eC]

theorem all_mk {l : PySem.W.OpenLaw} {w : World} {K : PySem.W.Frag} {h : Heap} {mg : Str → Option Value} {fa : Addr} (X : K.In h) (G : h.Ns mainGlobals mg) (hfa : mg "law" = some (.ref fa))
    {D_Count : Addr} (h_Count : PySem.W.nsIn K mainGlobals "Count" = some (some (.ref D_Count))) (cp_Count : PySem.W.plainGet K D_Count Str.empty = true) (cd_Count : PySem.W.hasDictIn K D_Count = true) (co_Count : PySem.W.plainOver K D_Count = true) (cs_Count : PySem.W.findIn K (.ref D_Count) "__setattr__" = some (some (.builtin "object.__setattr__"))) (cm_Count : PySem.W.makesIn K D_Count = true) (ck_Count : PySem.W.keepIn K (.ref D_Count) = true)
    (cn_Count_many : PySem.W.findIn K (.ref D_Count) "many" = some none)
    {D_Way : Addr} (h_Way : PySem.W.nsIn K mainGlobals "Way" = some (some (.ref D_Way))) (cp_Way : PySem.W.plainGet K D_Way Str.empty = true) (cd_Way : PySem.W.hasDictIn K D_Way = true) (co_Way : PySem.W.plainOver K D_Way = true) (cs_Way : PySem.W.findIn K (.ref D_Way) "__setattr__" = some (some (.builtin "object.__setattr__"))) (cm_Way : PySem.W.makesIn K D_Way = true) (ck_Way : PySem.W.keepIn K (.ref D_Way) = true)
    (cn_Way_names : PySem.W.findIn K (.ref D_Way) "names" = some none)
    (cn_Way_trail : PySem.W.findIn K (.ref D_Way) "trail" = some none)
    (cn_Way_steps : PySem.W.findIn K (.ref D_Way) "steps" = some none)
    (cn_Way_share : PySem.W.findIn K (.ref D_Way) "share" = some none)
    {f0 : Addr} {oc0 kV0 dc0 pm0 cd0 ct0 : Value} {od0 an0 : Option Addr} {sl0 : Array (Option Value)}
    (a0 : PySem.W.nsIn K mainGlobals "_law_word" = some (some (.ref f0))) (l0 : K.lookup f0 = some ⟨oc0, od0, .func (PySem.W.fnOf "_law_word" "_law_word" (defArgs s__law_word) (defBody s__law_word) (defScope s__law_word) .none kV0 dc0 pm0 an0 cd0 ct0), sl0⟩) (c0 : PySem.W.codeIn K cd0 "_law_word" = true) (k0 : PySem.W.keepIn K (.ref f0) = true)
    {f1 : Addr} {oc1 kV1 dc1 pm1 cd1 ct1 : Value} {od1 an1 : Option Addr} {sl1 : Array (Option Value)}
    (a1 : PySem.W.nsIn K mainGlobals "_law_drawn" = some (some (.ref f1))) (l1 : K.lookup f1 = some ⟨oc1, od1, .func (PySem.W.fnOf "_law_drawn" "_law_drawn" (defArgs s__law_drawn) (defBody s__law_drawn) (defScope s__law_drawn) .none kV1 dc1 pm1 an1 cd1 ct1), sl1⟩) (c1 : PySem.W.codeIn K cd1 "_law_drawn" = true) (k1 : PySem.W.keepIn K (.ref f1) = true)
    {f2 : Addr} {oc2 kV2 dc2 pm2 cd2 ct2 : Value} {od2 an2 : Option Addr} {sl2 : Array (Option Value)}
    (a2 : PySem.W.nsIn K mainGlobals "_law_cell" = some (some (.ref f2))) (l2 : K.lookup f2 = some ⟨oc2, od2, .func (PySem.W.fnOf "_law_cell" "_law_cell" (defArgs s__law_cell) (defBody s__law_cell) (defScope s__law_cell) .none kV2 dc2 pm2 an2 cd2 ct2), sl2⟩) (c2 : PySem.W.codeIn K cd2 "_law_cell" = true) (k2 : PySem.W.keepIn K (.ref f2) = true)
    {f3 : Addr} {oc3 kV3 dc3 pm3 cd3 ct3 : Value} {od3 an3 : Option Addr} {sl3 : Array (Option Value)}
    (a3 : PySem.W.nsIn K mainGlobals "is_name" = some (some (.ref f3))) (l3 : K.lookup f3 = some ⟨oc3, od3, .func (PySem.W.fnOf "is_name" "is_name" (defArgs s_is_name) (defBody s_is_name) (defScope s_is_name) .none kV3 dc3 pm3 an3 cd3 ct3), sl3⟩) (c3 : PySem.W.codeIn K cd3 "is_name" = true) (k3 : PySem.W.keepIn K (.ref f3) = true)
    {f4 : Addr} {oc4 kV4 dc4 pm4 cd4 ct4 : Value} {od4 an4 : Option Addr} {sl4 : Array (Option Value)}
    (a4 : PySem.W.nsIn K mainGlobals "is_count" = some (some (.ref f4))) (l4 : K.lookup f4 = some ⟨oc4, od4, .func (PySem.W.fnOf "is_count" "is_count" (defArgs s_is_count) (defBody s_is_count) (defScope s_is_count) .none kV4 dc4 pm4 an4 cd4 ct4), sl4⟩) (c4 : PySem.W.codeIn K cd4 "is_count" = true) (k4 : PySem.W.keepIn K (.ref f4) = true)
    {f5 : Addr} {oc5 kV5 dc5 pm5 cd5 ct5 : Value} {od5 an5 : Option Addr} {sl5 : Array (Option Value)}
    (a5 : PySem.W.nsIn K mainGlobals "is_room" = some (some (.ref f5))) (l5 : K.lookup f5 = some ⟨oc5, od5, .func (PySem.W.fnOf "is_room" "is_room" (defArgs s_is_room) (defBody s_is_room) (defScope s_is_room) .none kV5 dc5 pm5 an5 cd5 ct5), sl5⟩) (c5 : PySem.W.codeIn K cd5 "is_room" = true) (k5 : PySem.W.keepIn K (.ref f5) = true)
    {f6 : Addr} {oc6 kV6 dc6 pm6 cd6 ct6 : Value} {od6 an6 : Option Addr} {sl6 : Array (Option Value)}
    (a6 : PySem.W.nsIn K mainGlobals "need_house" = some (some (.ref f6))) (l6 : K.lookup f6 = some ⟨oc6, od6, .func (PySem.W.fnOf "need_house" "need_house" (defArgs s_need_house) (defBody s_need_house) (defScope s_need_house) .none kV6 dc6 pm6 an6 cd6 ct6), sl6⟩) (c6 : PySem.W.codeIn K cd6 "need_house" = true) (k6 : PySem.W.keepIn K (.ref f6) = true)
    {f7 : Addr} {oc7 kV7 dc7 pm7 cd7 ct7 : Value} {od7 an7 : Option Addr} {sl7 : Array (Option Value)}
    (a7 : PySem.W.findIn K (.ref D_Count) "need" = some (some (.ref f7))) (l7 : K.lookup f7 = some ⟨oc7, od7, .func (PySem.W.fnOf "need" "Count.need" (defArgs s_Count_need) (defBody s_Count_need) (defScope s_Count_need) .none kV7 dc7 pm7 an7 cd7 ct7), sl7⟩) (c7 : PySem.W.codeIn K cd7 "Count.need" = true) (k7 : PySem.W.keepIn K (.ref f7) = true)
    (i7 : PySem.W.isFn K (.ref f7) = true)
    {f8 : Addr} {oc8 kV8 dc8 pm8 cd8 ct8 : Value} {od8 an8 : Option Addr} {sl8 : Array (Option Value)}
    (a8 : PySem.W.findIn K (.ref D_Count) "enter" = some (some (.ref f8))) (l8 : K.lookup f8 = some ⟨oc8, od8, .func (PySem.W.fnOf "enter" "Count.enter" (defArgs s_Count_enter) (defBody s_Count_enter) (defScope s_Count_enter) .none kV8 dc8 pm8 an8 cd8 ct8), sl8⟩) (c8 : PySem.W.codeIn K cd8 "Count.enter" = true) (k8 : PySem.W.keepIn K (.ref f8) = true)
    (i8 : PySem.W.isFn K (.ref f8) = true)
    {f9 : Addr} {oc9 kV9 dc9 pm9 cd9 ct9 : Value} {od9 an9 : Option Addr} {sl9 : Array (Option Value)}
    (a9 : PySem.W.nsIn K mainGlobals "is_form" = some (some (.ref f9))) (l9 : K.lookup f9 = some ⟨oc9, od9, .func (PySem.W.fnOf "is_form" "is_form" (defArgs s_is_form) (defBody s_is_form) (defScope s_is_form) .none kV9 dc9 pm9 an9 cd9 ct9), sl9⟩) (c9 : PySem.W.codeIn K cd9 "is_form" = true) (k9 : PySem.W.keepIn K (.ref f9) = true)
    {f10 : Addr} {oc10 kV10 dc10 pm10 cd10 ct10 : Value} {od10 an10 : Option Addr} {sl10 : Array (Option Value)}
    (a10 : PySem.W.findIn K (.ref D_Count) "term" = some (some (.ref f10))) (l10 : K.lookup f10 = some ⟨oc10, od10, .func (PySem.W.fnOf "term" "Count.term" (defArgs s_Count_term) (defBody s_Count_term) (defScope s_Count_term) .none kV10 dc10 pm10 an10 cd10 ct10), sl10⟩) (c10 : PySem.W.codeIn K cd10 "Count.term" = true) (k10 : PySem.W.keepIn K (.ref f10) = true)
    (i10 : PySem.W.isFn K (.ref f10) = true)
    {f11 : Addr} {oc11 kV11 dc11 pm11 cd11 ct11 : Value} {od11 an11 : Option Addr} {sl11 : Array (Option Value)}
    (a11 : PySem.W.findIn K (.ref D_Count) "third" = some (some (.ref f11))) (l11 : K.lookup f11 = some ⟨oc11, od11, .func (PySem.W.fnOf "third" "Count.third" (defArgs s_Count_third) (defBody s_Count_third) (defScope s_Count_third) .none kV11 dc11 pm11 an11 cd11 ct11), sl11⟩) (c11 : PySem.W.codeIn K cd11 "Count.third" = true) (k11 : PySem.W.keepIn K (.ref f11) = true)
    (i11 : PySem.W.isFn K (.ref f11) = true)
    {f12 : Addr} {oc12 kV12 dc12 pm12 cd12 ct12 : Value} {od12 an12 : Option Addr} {sl12 : Array (Option Value)}
    (a12 : PySem.W.findIn K (.ref D_Count) "deed" = some (some (.ref f12))) (l12 : K.lookup f12 = some ⟨oc12, od12, .func (PySem.W.fnOf "deed" "Count.deed" (defArgs s_Count_deed) (defBody s_Count_deed) (defScope s_Count_deed) .none kV12 dc12 pm12 an12 cd12 ct12), sl12⟩) (c12 : PySem.W.codeIn K cd12 "Count.deed" = true) (k12 : PySem.W.keepIn K (.ref f12) = true)
    (i12 : PySem.W.isFn K (.ref f12) = true)
    {f13 : Addr} {oc13 kV13 dc13 pm13 cd13 ct13 : Value} {od13 an13 : Option Addr} {sl13 : Array (Option Value)}
    (a13 : PySem.W.findIn K (.ref D_Count) "block" = some (some (.ref f13))) (l13 : K.lookup f13 = some ⟨oc13, od13, .func (PySem.W.fnOf "block" "Count.block" (defArgs s_Count_block) (defBody s_Count_block) (defScope s_Count_block) .none kV13 dc13 pm13 an13 cd13 ct13), sl13⟩) (c13 : PySem.W.codeIn K cd13 "Count.block" = true) (k13 : PySem.W.keepIn K (.ref f13) = true)
    (i13 : PySem.W.isFn K (.ref f13) = true)
    {f14 : Addr} {oc14 kV14 dc14 pm14 cd14 ct14 : Value} {od14 an14 : Option Addr} {sl14 : Array (Option Value)}
    (a14 : PySem.W.findIn K (.ref D_Count) "__init__" = some (some (.ref f14))) (l14 : K.lookup f14 = some ⟨oc14, od14, .func (PySem.W.fnOf "__init__" "Count.__init__" (defArgs s_Count___init__) (defBody s_Count___init__) (defScope s_Count___init__) .none kV14 dc14 pm14 an14 cd14 ct14), sl14⟩) (c14 : PySem.W.codeIn K cd14 "Count.__init__" = true) (k14 : PySem.W.keepIn K (.ref f14) = true)
    (i14 : PySem.W.isFn K (.ref f14) = true)
    {f15 : Addr} {oc15 kV15 dc15 pm15 cd15 ct15 : Value} {od15 an15 : Option Addr} {sl15 : Array (Option Value)}
    (a15 : PySem.W.nsIn K mainGlobals "need_program" = some (some (.ref f15))) (l15 : K.lookup f15 = some ⟨oc15, od15, .func (PySem.W.fnOf "need_program" "need_program" (defArgs s_need_program) (defBody s_need_program) (defScope s_need_program) .none kV15 dc15 pm15 an15 cd15 ct15), sl15⟩) (c15 : PySem.W.codeIn K cd15 "need_program" = true) (k15 : PySem.W.keepIn K (.ref f15) = true)
    {f16 : Addr} {oc16 kV16 dc16 pm16 cd16 ct16 : Value} {od16 an16 : Option Addr} {sl16 : Array (Option Value)}
    (a16 : PySem.W.nsIn K mainGlobals "worth" = some (some (.ref f16))) (l16 : K.lookup f16 = some ⟨oc16, od16, .func (PySem.W.fnOf "worth" "worth" (defArgs s_worth) (defBody s_worth) (defScope s_worth) .none kV16 dc16 pm16 an16 cd16 ct16), sl16⟩) (c16 : PySem.W.codeIn K cd16 "worth" = true) (k16 : PySem.W.keepIn K (.ref f16) = true)
    {f17 : Addr} {oc17 kV17 dc17 pm17 cd17 ct17 : Value} {od17 an17 : Option Addr} {sl17 : Array (Option Value)}
    (a17 : PySem.W.findIn K (.ref D_Way) "__init__" = some (some (.ref f17))) (l17 : K.lookup f17 = some ⟨oc17, od17, .func (PySem.W.fnOf "__init__" "Way.__init__" (defArgs s_Way___init__) (defBody s_Way___init__) (defScope s_Way___init__) .none kV17 dc17 pm17 an17 cd17 ct17), sl17⟩) (c17 : PySem.W.codeIn K cd17 "Way.__init__" = true) (k17 : PySem.W.keepIn K (.ref f17) = true)
    (i17 : PySem.W.isFn K (.ref f17) = true)
    {f18 : Addr} {oc18 kV18 dc18 pm18 cd18 ct18 : Value} {od18 an18 : Option Addr} {sl18 : Array (Option Value)}
    (a18 : PySem.W.nsIn K mainGlobals "common" = some (some (.ref f18))) (l18 : K.lookup f18 = some ⟨oc18, od18, .func (PySem.W.fnOf "common" "common" (defArgs s_common) (defBody s_common) (defScope s_common) .none kV18 dc18 pm18 an18 cd18 ct18), sl18⟩) (c18 : PySem.W.codeIn K cd18 "common" = true) (k18 : PySem.W.keepIn K (.ref f18) = true)
    {f19 : Addr} {oc19 kV19 dc19 pm19 cd19 ct19 : Value} {od19 an19 : Option Addr} {sl19 : Array (Option Value)}
    (a19 : PySem.W.nsIn K mainGlobals "fraction" = some (some (.ref f19))) (l19 : K.lookup f19 = some ⟨oc19, od19, .func (PySem.W.fnOf "fraction" "fraction" (defArgs s_fraction) (defBody s_fraction) (defScope s_fraction) .none kV19 dc19 pm19 an19 cd19 ct19), sl19⟩) (c19 : PySem.W.codeIn K cd19 "fraction" = true) (k19 : PySem.W.keepIn K (.ref f19) = true)
    {f20 : Addr} {oc20 kV20 dc20 pm20 cd20 ct20 : Value} {od20 an20 : Option Addr} {sl20 : Array (Option Value)}
    (a20 : PySem.W.nsIn K mainGlobals "times" = some (some (.ref f20))) (l20 : K.lookup f20 = some ⟨oc20, od20, .func (PySem.W.fnOf "times" "times" (defArgs s_times) (defBody s_times) (defScope s_times) .none kV20 dc20 pm20 an20 cd20 ct20), sl20⟩) (c20 : PySem.W.codeIn K cd20 "times" = true) (k20 : PySem.W.keepIn K (.ref f20) = true)
    {f21 : Addr} {oc21 kV21 dc21 pm21 cd21 ct21 : Value} {od21 an21 : Option Addr} {sl21 : Array (Option Value)}
    (a21 : PySem.W.findIn K (.ref D_Way) "drawn" = some (some (.ref f21))) (l21 : K.lookup f21 = some ⟨oc21, od21, .func (PySem.W.fnOf "drawn" "Way.drawn" (defArgs s_Way_drawn) (defBody s_Way_drawn) (defScope s_Way_drawn) .none kV21 dc21 pm21 an21 cd21 ct21), sl21⟩) (c21 : PySem.W.codeIn K cd21 "Way.drawn" = true) (k21 : PySem.W.keepIn K (.ref f21) = true)
    (i21 : PySem.W.isFn K (.ref f21) = true)
    {f22 : Addr} {oc22 kV22 dc22 pm22 cd22 ct22 : Value} {od22 an22 : Option Addr} {sl22 : Array (Option Value)}
    (a22 : PySem.W.nsIn K mainGlobals "after_deed" = some (some (.ref f22))) (l22 : K.lookup f22 = some ⟨oc22, od22, .func (PySem.W.fnOf "after_deed" "after_deed" (defArgs s_after_deed) (defBody s_after_deed) (defScope s_after_deed) .none kV22 dc22 pm22 an22 cd22 ct22), sl22⟩) (c22 : PySem.W.codeIn K cd22 "after_deed" = true) (k22 : PySem.W.keepIn K (.ref f22) = true)
    {f23 : Addr} {oc23 kV23 dc23 pm23 cd23 ct23 : Value} {od23 an23 : Option Addr} {sl23 : Array (Option Value)}
    (a23 : PySem.W.nsIn K mainGlobals "after" = some (some (.ref f23))) (l23 : K.lookup f23 = some ⟨oc23, od23, .func (PySem.W.fnOf "after" "after" (defArgs s_after) (defBody s_after) (defScope s_after) .none kV23 dc23 pm23 an23 cd23 ct23), sl23⟩) (c23 : PySem.W.codeIn K cd23 "after" = true) (k23 : PySem.W.keepIn K (.ref f23) = true)
    {f24 : Addr} {oc24 kV24 dc24 pm24 cd24 ct24 : Value} {od24 an24 : Option Addr} {sl24 : Array (Option Value)}
    (a24 : PySem.W.nsIn K mainGlobals "ways_of" = some (some (.ref f24))) (l24 : K.lookup f24 = some ⟨oc24, od24, .func (PySem.W.fnOf "ways_of" "ways_of" (defArgs s_ways_of) (defBody s_ways_of) (defScope s_ways_of) .none kV24 dc24 pm24 an24 cd24 ct24), sl24⟩) (c24 : PySem.W.codeIn K cd24 "ways_of" = true) (k24 : PySem.W.keepIn K (.ref f24) = true)
    {f25 : Addr} {oc25 kV25 dc25 pm25 cd25 ct25 : Value} {od25 an25 : Option Addr} {sl25 : Array (Option Value)}
    (a25 : PySem.W.nsIn K mainGlobals "plus" = some (some (.ref f25))) (l25 : K.lookup f25 = some ⟨oc25, od25, .func (PySem.W.fnOf "plus" "plus" (defArgs s_plus) (defBody s_plus) (defScope s_plus) .none kV25 dc25 pm25 an25 cd25 ct25), sl25⟩) (c25 : PySem.W.codeIn K cd25 "plus" = true) (k25 : PySem.W.keepIn K (.ref f25) = true)
    {f26 : Addr} {oc26 kV26 dc26 pm26 cd26 ct26 : Value} {od26 an26 : Option Addr} {sl26 : Array (Option Value)}
    (a26 : PySem.W.nsIn K mainGlobals "outcomes" = some (some (.ref f26))) (l26 : K.lookup f26 = some ⟨oc26, od26, .func (PySem.W.fnOf "outcomes" "outcomes" (defArgs s_outcomes) (defBody s_outcomes) (defScope s_outcomes) .none kV26 dc26 pm26 an26 cd26 ct26), sl26⟩) (c26 : PySem.W.codeIn K cd26 "outcomes" = true) (k26 : PySem.W.keepIn K (.ref f26) = true)
    {f27 : Addr} {oc27 kV27 dc27 pm27 cd27 ct27 : Value} {od27 an27 : Option Addr} {sl27 : Array (Option Value)}
    (a27 : PySem.W.nsIn K mainGlobals "_law_told" = some (some (.ref f27))) (l27 : K.lookup f27 = some ⟨oc27, od27, .func (PySem.W.fnOf "_law_told" "_law_told" (defArgs s__law_told) (defBody s__law_told) (defScope s__law_told) .none kV27 dc27 pm27 an27 cd27 ct27), sl27⟩) (c27 : PySem.W.codeIn K cd27 "_law_told" = true) (k27 : PySem.W.keepIn K (.ref f27) = true)
    {f28 : Addr} {oc28 kV28 dc28 pm28 cd28 ct28 : Value} {od28 an28 : Option Addr} {sl28 : Array (Option Value)}
    (a28 : PySem.W.nsIn K mainGlobals "law" = some (some (.ref f28))) (l28 : K.lookup f28 = some ⟨oc28, od28, .func (PySem.W.fnOf "law" "law" (defArgs s_law) (defBody s_law) (defScope s_law) .none kV28 dc28 pm28 an28 cd28 ct28), sl28⟩) (c28 : PySem.W.codeIn K cd28 "law" = true) (k28 : PySem.W.keepIn K (.ref f28) = true)
    (z_ValueError : PySem.W.nsIn K mainGlobals "ValueError" = some none)
    (z_abs : PySem.W.nsIn K mainGlobals "abs" = some none)
    (z_all : PySem.W.nsIn K mainGlobals "all" = some none)
    (z_bool : PySem.W.nsIn K mainGlobals "bool" = some none)
    (z_dict : PySem.W.nsIn K mainGlobals "dict" = some none)
    (z_int : PySem.W.nsIn K mainGlobals "int" = some none)
    (z_isinstance : PySem.W.nsIn K mainGlobals "isinstance" = some none)
    (z_len : PySem.W.nsIn K mainGlobals "len" = some none)
    (z_list : PySem.W.nsIn K mainGlobals "list" = some none)
    (z_max : PySem.W.nsIn K mainGlobals "max" = some none)
    (z_min : PySem.W.nsIn K mainGlobals "min" = some none)
    (z_range : PySem.W.nsIn K mainGlobals "range" = some none)
    (z_sorted : PySem.W.nsIn K mainGlobals "sorted" = some none)
    (z_str : PySem.W.nsIn K mainGlobals "str" = some none)
    (z_sum : PySem.W.nsIn K mainGlobals "sum" = some none)
    (z_tuple : PySem.W.nsIn K mainGlobals "tuple" = some none)
    (z_zip : PySem.W.nsIn K mainGlobals "zip" = some none)
    {t_LETTERS : Tok} (q_LETTERS : PySem.W.nsIn K mainGlobals "LETTERS" = some (some (.str "abcdefghijklmnopqrstuvwxyz" t_LETTERS)))
    {t_MOST_BEGINNINGS : Tok} (q_MOST_BEGINNINGS : PySem.W.nsIn K mainGlobals "MOST_BEGINNINGS" = some (some (.int 64 t_MOST_BEGINNINGS)))
    {t_MOST_LETTERS : Tok} (q_MOST_LETTERS : PySem.W.nsIn K mainGlobals "MOST_LETTERS" = some (some (.int 4 t_MOST_LETTERS)))
    {t_MOST_NAMES : Tok} (q_MOST_NAMES : PySem.W.nsIn K mainGlobals "MOST_NAMES" = some (some (.int 4 t_MOST_NAMES)))
    {t_MOST_NUMBER : Tok} (q_MOST_NUMBER : PySem.W.nsIn K mainGlobals "MOST_NUMBER" = some (some (.int 999 t_MOST_NUMBER)))
    {t_MOST_SIZE : Tok} (q_MOST_SIZE : PySem.W.nsIn K mainGlobals "MOST_SIZE" = some (some (.int 16 t_MOST_SIZE)))
    {t_MOST_THINGS : Tok} (q_MOST_THINGS : PySem.W.nsIn K mainGlobals "MOST_THINGS" = some (some (.int 800 t_MOST_THINGS)))
    {t_MOST_TIMES : Tok} (q_MOST_TIMES : PySem.W.nsIn K mainGlobals "MOST_TIMES" = some (some (.int 6 t_MOST_TIMES)))
    {t_MOST_WAYS : Tok} (q_MOST_WAYS : PySem.W.nsIn K mainGlobals "MOST_WAYS" = some (some (.int 256 t_MOST_WAYS)))
    {t_MOST_WITHIN : Tok} (q_MOST_WITHIN : PySem.W.nsIn K mainGlobals "MOST_WITHIN" = some (some (.int 12 t_MOST_WITHIN)))
    {A_NOUGHT : Addr} {n_NOUGHT : Nat} {u0_NOUGHT u1_NOUGHT : Tok} {sl_NOUGHT : Array (Option Value)} (q_NOUGHT : PySem.W.nsIn K mainGlobals "NOUGHT" = some (some (.ref A_NOUGHT))) (r_NOUGHT : K.lookup A_NOUGHT = some ⟨.type "tuple", none, .seq #[.int 0 u0_NOUGHT, .int 1 u1_NOUGHT] n_NOUGHT, sl_NOUGHT⟩)
    {A_ONE : Addr} {n_ONE : Nat} {u0_ONE u1_ONE : Tok} {sl_ONE : Array (Option Value)} (q_ONE : PySem.W.nsIn K mainGlobals "ONE" = some (some (.ref A_ONE))) (r_ONE : K.lookup A_ONE = some ⟨.type "tuple", none, .seq #[.int 1 u0_ONE, .int 1 u1_ONE] n_ONE, sl_ONE⟩)
    {t_REST : Tok} (q_REST : PySem.W.nsIn K mainGlobals "REST" = some (some (.int 1000 t_REST)))
    {A_TWOS : Addr} {n_TWOS : Nat} {u0_TWOS u1_TWOS u2_TWOS u3_TWOS u4_TWOS : Tok} {sl_TWOS : Array (Option Value)} (q_TWOS : PySem.W.nsIn K mainGlobals "TWOS" = some (some (.ref A_TWOS))) (r_TWOS : K.lookup A_TWOS = some ⟨.type "tuple", none, .seq #[.str "sum" u0_TWOS, .str "less" u1_TWOS, .str "times" u2_TWOS, .str "same" u3_TWOS, .str "under" u4_TWOS] n_TWOS, sl_TWOS⟩)
    {C_TellError : Addr} (h_TellError : PySem.W.nsIn K mainGlobals "TellError" = some (some (.ref C_TellError)))
    {C_BadHouse : Addr} (h_BadHouse : PySem.W.nsIn K mainGlobals "BadHouse" = some (some (.ref C_BadHouse)))
    {C_BadProgram : Addr} (h_BadProgram : PySem.W.nsIn K mainGlobals "BadProgram" = some (some (.ref C_BadProgram)))
    {C_BadSight : Addr} (h_BadSight : PySem.W.nsIn K mainGlobals "BadSight" = some (some (.ref C_BadSight)))
    {C_BadTable : Addr} (h_BadTable : PySem.W.nsIn K mainGlobals "BadTable" = some (some (.ref C_BadTable)))
    {C_BadWeights : Addr} (h_BadWeights : PySem.W.nsIn K mainGlobals "BadWeights" = some (some (.ref C_BadWeights)))
    {C_NotPlain : Addr} (h_NotPlain : PySem.W.nsIn K mainGlobals "NotPlain" = some (some (.ref C_NotPlain)))
    {C_TooMany : Addr} (h_TooMany : PySem.W.nsIn K mainGlobals "TooMany" = some (some (.ref C_TooMany)))
    (xt_BadHouse : PySem.W.typeIn K (.ref C_BadHouse) = some (.type "type")) (yd_BadHouse : PySem.W.hasDictIn K C_BadHouse = true)
    (xt_BadProgram : PySem.W.typeIn K (.ref C_BadProgram) = some (.type "type")) (yd_BadProgram : PySem.W.hasDictIn K C_BadProgram = true)
    (xt_BadSight : PySem.W.typeIn K (.ref C_BadSight) = some (.type "type")) (yd_BadSight : PySem.W.hasDictIn K C_BadSight = true)
    (xt_BadTable : PySem.W.typeIn K (.ref C_BadTable) = some (.type "type")) (yd_BadTable : PySem.W.hasDictIn K C_BadTable = true)
    (xt_BadWeights : PySem.W.typeIn K (.ref C_BadWeights) = some (.type "type")) (yd_BadWeights : PySem.W.hasDictIn K C_BadWeights = true)
    (xt_NotPlain : PySem.W.typeIn K (.ref C_NotPlain) = some (.type "type")) (yd_NotPlain : PySem.W.hasDictIn K C_NotPlain = true)
    (xt_TellError : PySem.W.typeIn K (.ref C_TellError) = some (.type "type")) (yd_TellError : PySem.W.hasDictIn K C_TellError = true)
    (xt_TooMany : PySem.W.typeIn K (.ref C_TooMany) = some (.type "type")) (yd_TooMany : PySem.W.hasDictIn K C_TooMany = true)
    (xq_BadHouse : PySem.W.excIn K C_BadHouse veB "ValueError.__new__" = true) (xk_BadHouse : PySem.W.keepIn K (.ref C_BadHouse) = true) (xs_BadHouse : PySem.W.subIn K (.ref C_BadHouse) (.type "BaseException") = some true)
    (xq_BadProgram : PySem.W.excIn K C_BadProgram veB "ValueError.__new__" = true) (xk_BadProgram : PySem.W.keepIn K (.ref C_BadProgram) = true) (xs_BadProgram : PySem.W.subIn K (.ref C_BadProgram) (.type "BaseException") = some true)
    (xq_TooMany : PySem.W.excIn K C_TooMany veB "ValueError.__new__" = true) (xk_TooMany : PySem.W.keepIn K (.ref C_TooMany) = true) (xs_TooMany : PySem.W.subIn K (.ref C_TooMany) (.type "BaseException") = some true)
    (yn : PySem.W.specialIn K (.builtin "object.__class__") "__get__" = some (some (.builtin "getset_descriptor.__get__"))) (yt : PySem.W.takesIn K (.builtin "object.__class__") = some true)
    (yg_BadHouse : PySem.W.findIn K (.ref C_BadHouse) "__getattribute__" = some (some (.builtin "BaseException.__getattribute__"))) (yk_BadHouse : PySem.W.findIn K (.ref C_BadHouse) "__getattr__" = some none) (ya_BadHouse : PySem.W.findIn K (.ref C_BadHouse) "__class__" = some (some (.builtin "object.__class__"))) (ym_BadHouse : PySem.W.mroIn K C_BadHouse (.type "object") = some true)
    (yn_BadHouse_BadProgram : (C_BadHouse == C_BadProgram) = false) (yi_BadHouse_BadProgram : PySem.W.subIn K (.ref C_BadHouse) (.ref C_BadProgram) = some false)
    (yn_BadHouse_BadSight : (C_BadHouse == C_BadSight) = false) (yi_BadHouse_BadSight : PySem.W.subIn K (.ref C_BadHouse) (.ref C_BadSight) = some false)
    (yn_BadHouse_BadTable : (C_BadHouse == C_BadTable) = false) (yi_BadHouse_BadTable : PySem.W.subIn K (.ref C_BadHouse) (.ref C_BadTable) = some false)
    (yn_BadHouse_BadWeights : (C_BadHouse == C_BadWeights) = false) (yi_BadHouse_BadWeights : PySem.W.subIn K (.ref C_BadHouse) (.ref C_BadWeights) = some false)
    (yn_BadHouse_NotPlain : (C_BadHouse == C_NotPlain) = false) (yi_BadHouse_NotPlain : PySem.W.subIn K (.ref C_BadHouse) (.ref C_NotPlain) = some false)
    (yn_BadHouse_TooMany : (C_BadHouse == C_TooMany) = false) (yi_BadHouse_TooMany : PySem.W.subIn K (.ref C_BadHouse) (.ref C_TooMany) = some false)
    (yv_BadHouse : PySem.W.subIn K (.ref C_BadHouse) (.type "ValueError") = some true) (yx_BadHouse : PySem.W.subIn K (.ref C_BadHouse) (.ref C_TellError) = some true)
    (yg_BadProgram : PySem.W.findIn K (.ref C_BadProgram) "__getattribute__" = some (some (.builtin "BaseException.__getattribute__"))) (yk_BadProgram : PySem.W.findIn K (.ref C_BadProgram) "__getattr__" = some none) (ya_BadProgram : PySem.W.findIn K (.ref C_BadProgram) "__class__" = some (some (.builtin "object.__class__"))) (ym_BadProgram : PySem.W.mroIn K C_BadProgram (.type "object") = some true)
    (yn_BadProgram_BadHouse : (C_BadProgram == C_BadHouse) = false) (yi_BadProgram_BadHouse : PySem.W.subIn K (.ref C_BadProgram) (.ref C_BadHouse) = some false)
    (yn_BadProgram_BadSight : (C_BadProgram == C_BadSight) = false) (yi_BadProgram_BadSight : PySem.W.subIn K (.ref C_BadProgram) (.ref C_BadSight) = some false)
    (yn_BadProgram_BadTable : (C_BadProgram == C_BadTable) = false) (yi_BadProgram_BadTable : PySem.W.subIn K (.ref C_BadProgram) (.ref C_BadTable) = some false)
    (yn_BadProgram_BadWeights : (C_BadProgram == C_BadWeights) = false) (yi_BadProgram_BadWeights : PySem.W.subIn K (.ref C_BadProgram) (.ref C_BadWeights) = some false)
    (yn_BadProgram_NotPlain : (C_BadProgram == C_NotPlain) = false) (yi_BadProgram_NotPlain : PySem.W.subIn K (.ref C_BadProgram) (.ref C_NotPlain) = some false)
    (yn_BadProgram_TooMany : (C_BadProgram == C_TooMany) = false) (yi_BadProgram_TooMany : PySem.W.subIn K (.ref C_BadProgram) (.ref C_TooMany) = some false)
    (yv_BadProgram : PySem.W.subIn K (.ref C_BadProgram) (.type "ValueError") = some true) (yx_BadProgram : PySem.W.subIn K (.ref C_BadProgram) (.ref C_TellError) = some true)
    (yg_TooMany : PySem.W.findIn K (.ref C_TooMany) "__getattribute__" = some (some (.builtin "BaseException.__getattribute__"))) (yk_TooMany : PySem.W.findIn K (.ref C_TooMany) "__getattr__" = some none) (ya_TooMany : PySem.W.findIn K (.ref C_TooMany) "__class__" = some (some (.builtin "object.__class__"))) (ym_TooMany : PySem.W.mroIn K C_TooMany (.type "object") = some true)
    (yn_TooMany_BadHouse : (C_TooMany == C_BadHouse) = false) (yi_TooMany_BadHouse : PySem.W.subIn K (.ref C_TooMany) (.ref C_BadHouse) = some false)
    (yn_TooMany_BadProgram : (C_TooMany == C_BadProgram) = false) (yi_TooMany_BadProgram : PySem.W.subIn K (.ref C_TooMany) (.ref C_BadProgram) = some false)
    (yn_TooMany_BadSight : (C_TooMany == C_BadSight) = false) (yi_TooMany_BadSight : PySem.W.subIn K (.ref C_TooMany) (.ref C_BadSight) = some false)
    (yn_TooMany_BadTable : (C_TooMany == C_BadTable) = false) (yi_TooMany_BadTable : PySem.W.subIn K (.ref C_TooMany) (.ref C_BadTable) = some false)
    (yn_TooMany_BadWeights : (C_TooMany == C_BadWeights) = false) (yi_TooMany_BadWeights : PySem.W.subIn K (.ref C_TooMany) (.ref C_BadWeights) = some false)
    (yn_TooMany_NotPlain : (C_TooMany == C_NotPlain) = false) (yi_TooMany_NotPlain : PySem.W.subIn K (.ref C_TooMany) (.ref C_NotPlain) = some false)
    (yv_TooMany : PySem.W.subIn K (.ref C_TooMany) (.type "ValueError") = some true) (yx_TooMany : PySem.W.subIn K (.ref C_TooMany) (.ref C_TellError) = some true)
    (ytb : PySem.W.subIn K (.ref C_TellError) (.type "BaseException") = some true)
    : ∃ (ec : Nat → Addr) (fd : FuncData), (∀ (s : Shared) (u : Value), BindsTo s fd ⟨[u], []⟩ [("script", u)]) ∧ ∀ base : Heap, K.In base → base.Ns mainGlobals mg → FnOk l.prog w K mg base (L2N.CX l.prog w) 63 fa fd ["script"] (spP K ec 1 g_law) := by
  have e := hfa.symm.trans (PySem.W.mg_of X G a28)
  cases e
  have T : Txt K mg (fun n => ([C_BadHouse, C_BadProgram, C_BadSight, C_BadTable, C_BadWeights, C_NotPlain, C_TooMany, 0, C_TellError] : List Addr).getD n 0) := ⟨PySem.W.mg_none_of X G z_ValueError, PySem.W.mg_none_of X G z_abs, PySem.W.mg_none_of X G z_all, PySem.W.mg_none_of X G z_bool, PySem.W.mg_none_of X G z_dict, PySem.W.mg_none_of X G z_int, PySem.W.mg_none_of X G z_isinstance, PySem.W.mg_none_of X G z_len, PySem.W.mg_none_of X G z_list, PySem.W.mg_none_of X G z_max, PySem.W.mg_none_of X G z_min, PySem.W.mg_none_of X G z_range, PySem.W.mg_none_of X G z_sorted, PySem.W.mg_none_of X G z_str, PySem.W.mg_none_of X G z_sum, PySem.W.mg_none_of X G z_tuple, PySem.W.mg_none_of X G z_zip, globD_str (PySem.W.mg_of X G q_LETTERS), globD_int (PySem.W.mg_of X G q_MOST_BEGINNINGS), globD_int (PySem.W.mg_of X G q_MOST_LETTERS), globD_int (PySem.W.mg_of X G q_MOST_NAMES), globD_int (PySem.W.mg_of X G q_MOST_NUMBER), globD_int (PySem.W.mg_of X G q_MOST_SIZE), globD_int (PySem.W.mg_of X G q_MOST_THINGS), globD_int (PySem.W.mg_of X G q_MOST_TIMES), globD_int (PySem.W.mg_of X G q_MOST_WAYS), globD_int (PySem.W.mg_of X G q_MOST_WITHIN), globD_tup (vs := [.int (0), .int (1)]) (PySem.W.mg_of X G q_NOUGHT) r_NOUGHT (show 2 ≤ sizeLine by decide) (.cons ⟨_, rfl⟩ (.cons ⟨_, rfl⟩ .nil)) (fun G => (.cons (.int _) (.cons (.int _) .nil))), globD_tup (vs := [.int (1), .int (1)]) (PySem.W.mg_of X G q_ONE) r_ONE (show 2 ≤ sizeLine by decide) (.cons ⟨_, rfl⟩ (.cons ⟨_, rfl⟩ .nil)) (fun G => (.cons (.int _) (.cons (.int _) .nil))), globD_int (PySem.W.mg_of X G q_REST), globD_tup (vs := [.str "sum", .str "less", .str "times", .str "same", .str "under"]) (PySem.W.mg_of X G q_TWOS) r_TWOS (show 5 ≤ sizeLine by decide) (.cons ⟨_, rfl⟩ (.cons ⟨_, rfl⟩ (.cons ⟨_, rfl⟩ (.cons ⟨_, rfl⟩ (.cons ⟨_, rfl⟩ .nil))))) (fun G => (.cons (.str _) (.cons (.str _) (.cons (.str _) (.cons (.str _) (.cons (.str _) .nil)))))), ⟨PySem.W.mg_of X G h_BadHouse, xq_BadHouse, xk_BadHouse, xs_BadHouse, xt_BadHouse⟩, ⟨PySem.W.mg_of X G h_BadProgram, xq_BadProgram, xk_BadProgram, xs_BadProgram, xt_BadProgram⟩, ⟨PySem.W.mg_of X G h_TooMany, xq_TooMany, xk_TooMany, xs_TooMany, xt_TooMany⟩, PySem.W.mg_of X G h_TellError, PySem.W.mg_of X G h_BadHouse, PySem.W.mg_of X G h_BadProgram, PySem.W.mg_of X G h_BadSight, PySem.W.mg_of X G h_BadTable, PySem.W.mg_of X G h_BadWeights, PySem.W.mg_of X G h_NotPlain, PySem.W.mg_of X G h_TooMany, ⟨yg_BadHouse, yk_BadHouse, xs_BadHouse, yd_BadHouse, ya_BadHouse, yn, yt, ym_BadHouse⟩, kit_self, kit_other yn_BadHouse_BadProgram yd_BadProgram xt_BadProgram yi_BadHouse_BadProgram, kit_other yn_BadHouse_BadSight yd_BadSight xt_BadSight yi_BadHouse_BadSight, kit_other yn_BadHouse_BadTable yd_BadTable xt_BadTable yi_BadHouse_BadTable, kit_other yn_BadHouse_BadWeights yd_BadWeights xt_BadWeights yi_BadHouse_BadWeights, kit_other yn_BadHouse_NotPlain yd_NotPlain xt_NotPlain yi_BadHouse_NotPlain, kit_other yn_BadHouse_TooMany yd_TooMany xt_TooMany yi_BadHouse_TooMany, kit_ve yv_BadHouse, ⟨yg_BadProgram, yk_BadProgram, xs_BadProgram, yd_BadProgram, ya_BadProgram, yn, yt, ym_BadProgram⟩, kit_other yn_BadProgram_BadHouse yd_BadHouse xt_BadHouse yi_BadProgram_BadHouse, kit_self, kit_other yn_BadProgram_BadSight yd_BadSight xt_BadSight yi_BadProgram_BadSight, kit_other yn_BadProgram_BadTable yd_BadTable xt_BadTable yi_BadProgram_BadTable, kit_other yn_BadProgram_BadWeights yd_BadWeights xt_BadWeights yi_BadProgram_BadWeights, kit_other yn_BadProgram_NotPlain yd_NotPlain xt_NotPlain yi_BadProgram_NotPlain, kit_other yn_BadProgram_TooMany yd_TooMany xt_TooMany yi_BadProgram_TooMany, kit_ve yv_BadProgram, ⟨yg_TooMany, yk_TooMany, xs_TooMany, yd_TooMany, ya_TooMany, yn, yt, ym_TooMany⟩, kit_other yn_TooMany_BadHouse yd_BadHouse xt_BadHouse yi_TooMany_BadHouse, kit_other yn_TooMany_BadProgram yd_BadProgram xt_BadProgram yi_TooMany_BadProgram, kit_other yn_TooMany_BadSight yd_BadSight xt_BadSight yi_TooMany_BadSight, kit_other yn_TooMany_BadTable yd_BadTable xt_BadTable yi_TooMany_BadTable, kit_other yn_TooMany_BadWeights yd_BadWeights xt_BadWeights yi_TooMany_BadWeights, kit_other yn_TooMany_NotPlain yd_NotPlain xt_NotPlain yi_TooMany_NotPlain, kit_self, kit_ve yv_TooMany, (by intro c z hw; unfold wdL at hw; (split at hw; (rename_i hc; subst hc; exact PySem.W.exm_ref ytb yd_TellError xt_TellError yx_BadHouse)); (split at hw; (rename_i hc; subst hc; exact PySem.W.exm_ref ytb yd_TellError xt_TellError yx_BadProgram)); (split at hw; (rename_i hc; subst hc; exact PySem.W.exm_ref ytb yd_TellError xt_TellError yx_TooMany)); cases hw)⟩
  have F0 := fun_mk (st := s__law_word) l0 c0 k0
  have b0 := F0.binds (ps := ["e"]) fun _ _ _ _ _ _ us hl => match us, hl with | [_], _ => rfl
  have F1 := fun_mk (st := s__law_drawn) l1 c1 k1
  have b1 := F1.binds (ps := ["cell", "k"]) fun _ _ _ _ _ _ us hl => match us, hl with | [_, _], _ => rfl
  have F2 := fun_mk (st := s__law_cell) l2 c2 k2
  have b2 := F2.binds (ps := ["script", "k"]) fun _ _ _ _ _ _ us hl => match us, hl with | [_, _], _ => rfl
  have F3 := fun_mk (st := s_is_name) l3 c3 k3
  have b3 := F3.binds (ps := ["thing"]) fun _ _ _ _ _ _ us hl => match us, hl with | [_], _ => rfl
  have F4 := fun_mk (st := s_is_count) l4 c4 k4
  have b4 := F4.binds (ps := ["thing", "least", "most"]) fun _ _ _ _ _ _ us hl => match us, hl with | [_, _, _], _ => rfl
  have F5 := fun_mk (st := s_is_room) l5 c5 k5
  have b5 := F5.binds (ps := ["thing"]) fun _ _ _ _ _ _ us hl => match us, hl with | [_], _ => rfl
  have F6 := fun_mk (st := s_need_house) l6 c6 k6
  have b6 := F6.binds (ps := ["house"]) fun _ _ _ _ _ _ us hl => match us, hl with | [_], _ => rfl
  have F7 := fun_mk (st := s_Count_need) l7 c7 k7
  have b7 := F7.binds (ps := ["self", "good"]) fun _ _ _ _ _ _ us hl => match us, hl with | [_, _], _ => rfl
  have F8 := fun_mk (st := s_Count_enter) l8 c8 k8
  have b8 := F8.binds (ps := ["self", "deep"]) fun _ _ _ _ _ _ us hl => match us, hl with | [_, _], _ => rfl
  have F9 := fun_mk (st := s_is_form) l9 c9 k9
  have b9 := F9.binds (ps := ["thing", "size"]) fun _ _ _ _ _ _ us hl => match us, hl with | [_, _], _ => rfl
  have F10 := fun_mk (st := s_Count_term) l10 c10 k10
  have b10 := F10.binds (ps := ["self", "thing", "deep"]) fun _ _ _ _ _ _ us hl => match us, hl with | [_, _, _], _ => rfl
  have F11 := fun_mk (st := s_Count_third) l11 c11 k11
  have b11 := F11.binds (ps := ["self", "thing", "deep"]) fun _ _ _ _ _ _ us hl => match us, hl with | [_, _, _], _ => rfl
  have F12 := fun_mk (st := s_Count_deed) l12 c12 k12
  have b12 := F12.binds (ps := ["self", "thing", "deep"]) fun _ _ _ _ _ _ us hl => match us, hl with | [_, _, _], _ => rfl
  have F13 := fun_mk (st := s_Count_block) l13 c13 k13
  have b13 := F13.binds (ps := ["self", "thing", "deep"]) fun _ _ _ _ _ _ us hl => match us, hl with | [_, _, _], _ => rfl
  have F14 := fun_mk (st := s_Count___init__) l14 c14 k14
  have b14 := F14.binds (ps := ["self"]) fun _ _ _ _ _ _ us hl => match us, hl with | [_], _ => rfl
  have F15 := fun_mk (st := s_need_program) l15 c15 k15
  have b15 := F15.binds (ps := ["program"]) fun _ _ _ _ _ _ us hl => match us, hl with | [_], _ => rfl
  have F16 := fun_mk (st := s_worth) l16 c16 k16
  have b16 := F16.binds (ps := ["term", "names"]) fun _ _ _ _ _ _ us hl => match us, hl with | [_, _], _ => rfl
  have F17 := fun_mk (st := s_Way___init__) l17 c17 k17
  have b17 := F17.binds (ps := ["self", "names", "trail", "steps", "share"]) fun _ _ _ _ _ _ us hl => match us, hl with | [_, _, _, _, _], _ => rfl
  have F18 := fun_mk (st := s_common) l18 c18 k18
  have b18 := F18.binds (ps := ["one", "other"]) fun _ _ _ _ _ _ us hl => match us, hl with | [_, _], _ => rfl
  have F19 := fun_mk (st := s_fraction) l19 c19 k19
  have b19 := F19.binds (ps := ["top", "under"]) fun _ _ _ _ _ _ us hl => match us, hl with | [_, _], _ => rfl
  have F20 := fun_mk (st := s_times) l20 c20 k20
  have b20 := F20.binds (ps := ["one", "other"]) fun _ _ _ _ _ _ us hl => match us, hl with | [_, _], _ => rfl
  have F21 := fun_mk (st := s_Way_drawn) l21 c21 k21
  have b21 := F21.binds (ps := ["self", "name", "number", "many"]) fun _ _ _ _ _ _ us hl => match us, hl with | [_, _, _, _], _ => rfl
  have F22 := fun_mk (st := s_after_deed) l22 c22 k22
  have b22 := F22.binds (ps := ["ways", "deed"]) fun _ _ _ _ _ _ us hl => match us, hl with | [_, _], _ => rfl
  have F23 := fun_mk (st := s_after) l23 c23 k23
  have b23 := F23.binds (ps := ["ways", "block"]) fun _ _ _ _ _ _ us hl => match us, hl with | [_, _], _ => rfl
  have F24 := fun_mk (st := s_ways_of) l24 c24 k24
  have b24 := F24.binds (ps := ["program", "house", "beginning"]) fun _ _ _ _ _ _ us hl => match us, hl with | [_, _, _], _ => rfl
  have F25 := fun_mk (st := s_plus) l25 c25 k25
  have b25 := F25.binds (ps := ["one", "other"]) fun _ _ _ _ _ _ us hl => match us, hl with | [_, _], _ => rfl
  have F26 := fun_mk (st := s_outcomes) l26 c26 k26
  have b26 := F26.binds (ps := ["program", "house", "beginning"]) fun _ _ _ _ _ _ us hl => match us, hl with | [_, _, _], _ => rfl
  have F27 := fun_mk (st := s__law_told) l27 c27 k27
  have b27 := F27.binds (ps := ["program"]) fun _ _ _ _ _ _ us hl => match us, hl with | [_], _ => rfl
  have F28 := fun_mk (st := s_law) l28 c28 k28
  have b28 := F28.binds (ps := ["script"]) fun _ _ _ _ _ _ us hl => match us, hl with | [_], _ => rfl
  refine ⟨(fun n => ([C_BadHouse, C_BadProgram, C_BadSight, C_BadTable, C_BadWeights, C_NotPlain, C_TooMany, 0, C_TellError] : List Addr).getD n 0), PySem.W.fnOf "law" "law" (defArgs s_law) (defBody s_law) (defScope s_law) .none kV28 dc28 pm28 an28 cd28 ct28, fun s v => .of_eq rfl, fun base _ _ => ?_⟩
  have cl_Count : Cls K D_Count := ⟨cp_Count, cd_Count, co_Count, cs_Count⟩
  have Cc_Count : CntC K "Count" := ⟨D_Count, h_Count, cl_Count, cn_Count_many⟩
  have cl_Way : Cls K D_Way := ⟨cp_Way, cd_Way, co_Way, cs_Way⟩
  have Wc : WayC K D_Way := ⟨h_Way, cl_Way, cn_Way_names, cn_Way_trail, cn_Way_steps, cn_Way_share⟩
  have C__law_word : CalW l.prog w K mg base (fun n => ([C_BadHouse, C_BadProgram, C_BadSight, C_BadTable, C_BadWeights, C_NotPlain, C_TooMany, 0, C_TellError] : List Addr).getD n 0) "_law_word" 1 wdL := ⟨_, _, _, ok__law_word F0 T, (PySem.W.mg_of X G a0), k0, b0⟩
  have C__law_drawn : Cal l.prog w K mg base (fun n => ([C_BadHouse, C_BadProgram, C_BadSight, C_BadTable, C_BadWeights, C_NotPlain, C_TooMany, 0, C_TellError] : List Addr).getD n 0) "_law_drawn" 2 1 g__law_drawn := cal_of F1 (PySem.W.mg_of X G a1) b1 (ok__law_drawn F1 T )
  have C__law_cell : Cal l.prog w K mg base (fun n => ([C_BadHouse, C_BadProgram, C_BadSight, C_BadTable, C_BadWeights, C_NotPlain, C_TooMany, 0, C_TellError] : List Addr).getD n 0) "_law_cell" 2 1 g__law_cell := cal_of F2 (PySem.W.mg_of X G a2) b2 (ok__law_cell F2 T )
  have C_is_name : Cal l.prog w K mg base (fun n => ([C_BadHouse, C_BadProgram, C_BadSight, C_BadTable, C_BadWeights, C_NotPlain, C_TooMany, 0, C_TellError] : List Addr).getD n 0) "is_name" 1 1 g_is_name := cal_of F3 (PySem.W.mg_of X G a3) b3 (ok_is_name F3 T )
  have C_is_count : Cal l.prog w K mg base (fun n => ([C_BadHouse, C_BadProgram, C_BadSight, C_BadTable, C_BadWeights, C_NotPlain, C_TooMany, 0, C_TellError] : List Addr).getD n 0) "is_count" 3 1 g_is_count := cal_of F4 (PySem.W.mg_of X G a4) b4 (ok_is_count F4 T )
  have C_is_room : Cal l.prog w K mg base (fun n => ([C_BadHouse, C_BadProgram, C_BadSight, C_BadTable, C_BadWeights, C_NotPlain, C_TooMany, 0, C_TellError] : List Addr).getD n 0) "is_room" 1 2 g_is_room := cal_of F5 (PySem.W.mg_of X G a5) b5 (ok_is_room F5 T C_is_count C_is_name)
  have C_need_house : Cal l.prog w K mg base (fun n => ([C_BadHouse, C_BadProgram, C_BadSight, C_BadTable, C_BadWeights, C_NotPlain, C_TooMany, 0, C_TellError] : List Addr).getD n 0) "need_house" 1 3 g_need_house := cal_of F6 (PySem.W.mg_of X G a6) b6 (ok_need_house F6 T C_is_room)
  have M_Count_need : CalM l.prog w K mg base (fun n => ([C_BadHouse, C_BadProgram, C_BadSight, C_BadTable, C_BadWeights, C_NotPlain, C_TooMany, 0, C_TellError] : List Addr).getD n 0) "Count" "need" 2 1 g_Count_need := ⟨D_Count, _, _, _, h_Count, cl_Count, ⟨a7, i7, k7⟩, ok_Count_need F7 T , b7⟩
  have M_Count_enter : CalM l.prog w K mg base (fun n => ([C_BadHouse, C_BadProgram, C_BadSight, C_BadTable, C_BadWeights, C_NotPlain, C_TooMany, 0, C_TellError] : List Addr).getD n 0) "Count" "enter" 2 2 g_Count_enter := ⟨D_Count, _, _, _, h_Count, cl_Count, ⟨a8, i8, k8⟩, ok_Count_enter F8 Cc_Count (PySem.W.mg_of X G q_MOST_THINGS) (PySem.W.mg_of X G q_MOST_WITHIN) M_Count_need, b8⟩
  have C_is_form : Cal l.prog w K mg base (fun n => ([C_BadHouse, C_BadProgram, C_BadSight, C_BadTable, C_BadWeights, C_NotPlain, C_TooMany, 0, C_TellError] : List Addr).getD n 0) "is_form" 2 1 g_is_form := cal_of F9 (PySem.W.mg_of X G a9) b9 (ok_is_form F9 T )
  have gk_Count_term := ok_Count_term (P := l.prog) (w := w) (base := base) h_Count cl_Count F10 ⟨a10, i10, k10⟩ b10 T M_Count_enter M_Count_need C_is_count C_is_form C_is_name 14
  have M_Count_term : CalM l.prog w K mg base (fun n => ([C_BadHouse, C_BadProgram, C_BadSight, C_BadTable, C_BadWeights, C_NotPlain, C_TooMany, 0, C_TellError] : List Addr).getD n 0) "Count" "term" 3 16 (g_Count_term 14) := ⟨D_Count, _, _, _, h_Count, cl_Count, ⟨a10, i10, k10⟩, gk_Count_term, b10⟩
  have gk_Count_block := ok_Count_block (P := l.prog) (w := w) (base := base) h_Count cl_Count F13 ⟨a13, i13, k13⟩ b13 F12 ⟨a12, i12, k12⟩ b12 F11 ⟨a11, i11, k11⟩ b11 T M_Count_enter M_Count_need M_Count_term C_is_count C_is_form C_is_name 42
  have M_Count_block : CalM l.prog w K mg base (fun n => ([C_BadHouse, C_BadProgram, C_BadSight, C_BadTable, C_BadWeights, C_NotPlain, C_TooMany, 0, C_TellError] : List Addr).getD n 0) "Count" "block" 3 58 (g_Count_block 42) := ⟨D_Count, _, _, _, h_Count, cl_Count, ⟨a13, i13, k13⟩, gk_Count_block.1, b13⟩
  have M_Count_deed : CalM l.prog w K mg base (fun n => ([C_BadHouse, C_BadProgram, C_BadSight, C_BadTable, C_BadWeights, C_NotPlain, C_TooMany, 0, C_TellError] : List Addr).getD n 0) "Count" "deed" 3 58 (g_Count_deed 42) := ⟨D_Count, _, _, _, h_Count, cl_Count, ⟨a12, i12, k12⟩, gk_Count_block.2.1, b12⟩
  have M_Count_third : CalM l.prog w K mg base (fun n => ([C_BadHouse, C_BadProgram, C_BadSight, C_BadTable, C_BadWeights, C_NotPlain, C_TooMany, 0, C_TellError] : List Addr).getD n 0) "Count" "third" 3 58 (g_Count_third 42) := ⟨D_Count, _, _, _, h_Count, cl_Count, ⟨a11, i11, k11⟩, gk_Count_block.2.2, b11⟩
  have I_Count : InitC l.prog w K mg base "Count" 1 := ⟨_, _, fun C hC => (by cases (h_Count.symm.trans hC); exact ⟨cm_Count, a14, i14, ck_Count⟩), ok_Count___init__ F14 Cc_Count, b14, fun C hC => (by cases (h_Count.symm.trans hC); exact PySem.W.mg_of X G h_Count)⟩
  have C_need_program : Cal l.prog w K mg base (fun n => ([C_BadHouse, C_BadProgram, C_BadSight, C_BadTable, C_BadWeights, C_NotPlain, C_TooMany, 0, C_TellError] : List Addr).getD n 0) "need_program" 1 60 g_need_program := cal_of F15 (PySem.W.mg_of X G a15) b15 (ok_need_program F15 T I_Count M_Count_block)
  have gk_worth := ok_worth (P := l.prog) (w := w) (base := base) F16 (PySem.W.mg_of X G a16) b16 T  14
  have C_worth : Cal l.prog w K mg base (fun n => ([C_BadHouse, C_BadProgram, C_BadSight, C_BadTable, C_BadWeights, C_NotPlain, C_TooMany, 0, C_TellError] : List Addr).getD n 0) "worth" 2 14 (g_worth 14) := cal_of F16 (PySem.W.mg_of X G a16) b16 gk_worth
  have Wi : WayI l.prog w K mg base D_Way := ⟨_, _, ⟨cm_Way, a17, i17, ck_Way⟩, ok_Way___init__ Wc F17, b17, PySem.W.mg_of X G h_Way⟩
  have C_common : Cal l.prog w K mg base (fun n => ([C_BadHouse, C_BadProgram, C_BadSight, C_BadTable, C_BadWeights, C_NotPlain, C_TooMany, 0, C_TellError] : List Addr).getD n 0) "common" 2 1 g_common := cal_of F18 (PySem.W.mg_of X G a18) b18 (ok_common F18 T )
  have C_fraction : Cal l.prog w K mg base (fun n => ([C_BadHouse, C_BadProgram, C_BadSight, C_BadTable, C_BadWeights, C_NotPlain, C_TooMany, 0, C_TellError] : List Addr).getD n 0) "fraction" 2 2 g_fraction := cal_of F19 (PySem.W.mg_of X G a19) b19 (ok_fraction F19 T C_common)
  have C_times : Cal l.prog w K mg base (fun n => ([C_BadHouse, C_BadProgram, C_BadSight, C_BadTable, C_BadWeights, C_NotPlain, C_TooMany, 0, C_TellError] : List Addr).getD n 0) "times" 2 3 g_times := cal_of F20 (PySem.W.mg_of X G a20) b20 (ok_times F20 T C_fraction)
  have Dr : DrM l.prog w K mg base D_Way 5 g_times := ⟨_, _, _, ⟨a21, i21, k21⟩, ok_Way_drawn Wc F21 T Wi C_times, b21⟩
  have C_after : CalV l.prog w K mg base (fun n => ([C_BadHouse, C_BadProgram, C_BadSight, C_BadTable, C_BadWeights, C_NotPlain, C_TooMany, 0, C_TellError] : List Addr).getD n 0) "after" 44 (g_after 30) := ⟨_, _, _, (ok_after Wc F23 (PySem.W.mg_of X G a23) b23 F22 (PySem.W.mg_of X G a22) b22 T C_worth Dr 30).1, (PySem.W.mg_of X G a23), k23, b23⟩
  have C_ways_of : CalV0 l.prog w K mg base (fun n => ([C_BadHouse, C_BadProgram, C_BadSight, C_BadTable, C_BadWeights, C_NotPlain, C_TooMany, 0, C_TellError] : List Addr).getD n 0) "ways_of" 46 g_ways_of := ⟨_, _, _, ok_ways_of Wc F24 T Wi C_after, (PySem.W.mg_of X G a24), k24, b24⟩
  have C_plus : Cal l.prog w K mg base (fun n => ([C_BadHouse, C_BadProgram, C_BadSight, C_BadTable, C_BadWeights, C_NotPlain, C_TooMany, 0, C_TellError] : List Addr).getD n 0) "plus" 2 3 g_plus := cal_of F25 (PySem.W.mg_of X G a25) b25 (ok_plus F25 T C_fraction)
  have C_outcomes : Cal l.prog w K mg base (fun n => ([C_BadHouse, C_BadProgram, C_BadSight, C_BadTable, C_BadWeights, C_NotPlain, C_TooMany, 0, C_TellError] : List Addr).getD n 0) "outcomes" 3 61 g_outcomes := cal_of F26 (PySem.W.mg_of X G a26) b26 (ok_outcomes Wc F26 T C_need_house C_need_program C_ways_of C_plus)
  have C__law_told : Cal l.prog w K mg base (fun n => ([C_BadHouse, C_BadProgram, C_BadSight, C_BadTable, C_BadWeights, C_NotPlain, C_TooMany, 0, C_TellError] : List Addr).getD n 0) "_law_told" 1 62 g__law_told := cal_of F27 (PySem.W.mg_of X G a27) b27 (ok__law_told F27 T C__law_word C_outcomes)
  exact ok_law F28 T C__law_cell C__law_drawn C__law_told
end My
open PySem PySem.W PyProof.Rows
set_option maxRecDepth 100000 in
set_option maxHeartbeats 0 in
theorem PySem.Challenge.cw_tellweight_k22_ways_at_the_bound_holds : PySem.Challenge.rw_tellweight_k22_ways_at_the_bound.Holds := by
  w_on; o_law; k_head; (case hw => w_witness2)
  k_fill
  refine PL.walk_D (l := PySem.Challenge.rw_tellweight_k22_ways_at_the_bound) (n := 63) (k := 63) (x := "script") (g := My.g_law) rfl (by decide) rfl ⟨rfl, by decide, by decide⟩ ?F My.law_true
  case F =>
    intro w mg fa h Y G hmg
    have KX := PySem.W.kIn_of Y
    refine ⟨_, KX, PL.AtHead.plain (PL.shut_eq _) ?_⟩
    refine' My.all_mk KX G hmg ?h_Count ?cp_Count ?cd_Count ?co_Count ?cs_Count ?cm_Count ?ck_Count ?cn_Count_many ?h_Way ?cp_Way ?cd_Way ?co_Way ?cs_Way ?cm_Way ?ck_Way ?cn_Way_names ?cn_Way_trail ?cn_Way_steps ?cn_Way_share ?a0 ?l0 ?c0 ?k0 ?a1 ?l1 ?c1 ?k1 ?a2 ?l2 ?c2 ?k2 ?a3 ?l3 ?c3 ?k3 ?a4 ?l4 ?c4 ?k4 ?a5 ?l5 ?c5 ?k5 ?a6 ?l6 ?c6 ?k6 ?a7 ?l7 ?c7 ?k7 ?i7 ?a8 ?l8 ?c8 ?k8 ?i8 ?a9 ?l9 ?c9 ?k9 ?a10 ?l10 ?c10 ?k10 ?i10 ?a11 ?l11 ?c11 ?k11 ?i11 ?a12 ?l12 ?c12 ?k12 ?i12 ?a13 ?l13 ?c13 ?k13 ?i13 ?a14 ?l14 ?c14 ?k14 ?i14 ?a15 ?l15 ?c15 ?k15 ?a16 ?l16 ?c16 ?k16 ?a17 ?l17 ?c17 ?k17 ?i17 ?a18 ?l18 ?c18 ?k18 ?a19 ?l19 ?c19 ?k19 ?a20 ?l20 ?c20 ?k20 ?a21 ?l21 ?c21 ?k21 ?i21 ?a22 ?l22 ?c22 ?k22 ?a23 ?l23 ?c23 ?k23 ?a24 ?l24 ?c24 ?k24 ?a25 ?l25 ?c25 ?k25 ?a26 ?l26 ?c26 ?k26 ?a27 ?l27 ?c27 ?k27 ?a28 ?l28 ?c28 ?k28 ?z_ValueError ?z_abs ?z_all ?z_bool ?z_dict ?z_int ?z_isinstance ?z_len ?z_list ?z_max ?z_min ?z_range ?z_sorted ?z_str ?z_sum ?z_tuple ?z_zip ?q_LETTERS ?q_MOST_BEGINNINGS ?q_MOST_LETTERS ?q_MOST_NAMES ?q_MOST_NUMBER ?q_MOST_SIZE ?q_MOST_THINGS ?q_MOST_TIMES ?q_MOST_WAYS ?q_MOST_WITHIN ?q_NOUGHT ?r_NOUGHT ?q_ONE ?r_ONE ?q_REST ?q_TWOS ?r_TWOS ?h_TellError ?h_BadHouse ?h_BadProgram ?h_BadSight ?h_BadTable ?h_BadWeights ?h_NotPlain ?h_TooMany ?xt_BadHouse ?yd_BadHouse ?xt_BadProgram ?yd_BadProgram ?xt_BadSight ?yd_BadSight ?xt_BadTable ?yd_BadTable ?xt_BadWeights ?yd_BadWeights ?xt_NotPlain ?yd_NotPlain ?xt_TellError ?yd_TellError ?xt_TooMany ?yd_TooMany ?xq_BadHouse ?xk_BadHouse ?xs_BadHouse ?xq_BadProgram ?xk_BadProgram ?xs_BadProgram ?xq_TooMany ?xk_TooMany ?xs_TooMany ?yn ?yt ?yg_BadHouse ?yk_BadHouse ?ya_BadHouse ?ym_BadHouse ?yn_BadHouse_BadProgram ?yi_BadHouse_BadProgram ?yn_BadHouse_BadSight ?yi_BadHouse_BadSight ?yn_BadHouse_BadTable ?yi_BadHouse_BadTable ?yn_BadHouse_BadWeights ?yi_BadHouse_BadWeights ?yn_BadHouse_NotPlain ?yi_BadHouse_NotPlain ?yn_BadHouse_TooMany ?yi_BadHouse_TooMany ?yv_BadHouse ?yx_BadHouse ?yg_BadProgram ?yk_BadProgram ?ya_BadProgram ?ym_BadProgram ?yn_BadProgram_BadHouse ?yi_BadProgram_BadHouse ?yn_BadProgram_BadSight ?yi_BadProgram_BadSight ?yn_BadProgram_BadTable ?yi_BadProgram_BadTable ?yn_BadProgram_BadWeights ?yi_BadProgram_BadWeights ?yn_BadProgram_NotPlain ?yi_BadProgram_NotPlain ?yn_BadProgram_TooMany ?yi_BadProgram_TooMany ?yv_BadProgram ?yx_BadProgram ?yg_TooMany ?yk_TooMany ?ya_TooMany ?ym_TooMany ?yn_TooMany_BadHouse ?yi_TooMany_BadHouse ?yn_TooMany_BadProgram ?yi_TooMany_BadProgram ?yn_TooMany_BadSight ?yi_TooMany_BadSight ?yn_TooMany_BadTable ?yi_TooMany_BadTable ?yn_TooMany_BadWeights ?yi_TooMany_BadWeights ?yn_TooMany_NotPlain ?yi_TooMany_NotPlain ?yv_TooMany ?yx_TooMany ?ytb
    (case h_Count => k_is)
    (case cp_Count => k_is)
    (case cd_Count => k_is)
    (case co_Count => k_is)
    (case cs_Count => k_is)
    (case cm_Count => k_is)
    (case ck_Count => k_is)
    (case cn_Count_many => k_is)
    (case h_Way => k_is)
    (case cp_Way => k_is)
    (case cd_Way => k_is)
    (case co_Way => k_is)
    (case cs_Way => k_is)
    (case cm_Way => k_is)
    (case ck_Way => k_is)
    (case cn_Way_names => k_is)
    (case cn_Way_trail => k_is)
    (case cn_Way_steps => k_is)
    (case cn_Way_share => k_is)
    (case a0 => k_is)
    (case l0 => k_is)
    (case c0 => k_is)
    (case k0 => k_is)
    (case a1 => k_is)
    (case l1 => k_is)
    (case c1 => k_is)
    (case k1 => k_is)
    (case a2 => k_is)
    (case l2 => k_is)
    (case c2 => k_is)
    (case k2 => k_is)
    (case a3 => k_is)
    (case l3 => k_is)
    (case c3 => k_is)
    (case k3 => k_is)
    (case a4 => k_is)
    (case l4 => k_is)
    (case c4 => k_is)
    (case k4 => k_is)
    (case a5 => k_is)
    (case l5 => k_is)
    (case c5 => k_is)
    (case k5 => k_is)
    (case a6 => k_is)
    (case l6 => k_is)
    (case c6 => k_is)
    (case k6 => k_is)
    (case a7 => k_is)
    (case l7 => k_is)
    (case c7 => k_is)
    (case k7 => k_is)
    (case i7 => k_is)
    (case a8 => k_is)
    (case l8 => k_is)
    (case c8 => k_is)
    (case k8 => k_is)
    (case i8 => k_is)
    (case a9 => k_is)
    (case l9 => k_is)
    (case c9 => k_is)
    (case k9 => k_is)
    (case a10 => k_is)
    (case l10 => k_is)
    (case c10 => k_is)
    (case k10 => k_is)
    (case i10 => k_is)
    (case a11 => k_is)
    (case l11 => k_is)
    (case c11 => k_is)
    (case k11 => k_is)
    (case i11 => k_is)
    (case a12 => k_is)
    (case l12 => k_is)
    (case c12 => k_is)
    (case k12 => k_is)
    (case i12 => k_is)
    (case a13 => k_is)
    (case l13 => k_is)
    (case c13 => k_is)
    (case k13 => k_is)
    (case i13 => k_is)
    (case a14 => k_is)
    (case l14 => k_is)
    (case c14 => k_is)
    (case k14 => k_is)
    (case i14 => k_is)
    (case a15 => k_is)
    (case l15 => k_is)
    (case c15 => k_is)
    (case k15 => k_is)
    (case a16 => k_is)
    (case l16 => k_is)
    (case c16 => k_is)
    (case k16 => k_is)
    (case a17 => k_is)
    (case l17 => k_is)
    (case c17 => k_is)
    (case k17 => k_is)
    (case i17 => k_is)
    (case a18 => k_is)
    (case l18 => k_is)
    (case c18 => k_is)
    (case k18 => k_is)
    (case a19 => k_is)
    (case l19 => k_is)
    (case c19 => k_is)
    (case k19 => k_is)
    (case a20 => k_is)
    (case l20 => k_is)
    (case c20 => k_is)
    (case k20 => k_is)
    (case a21 => k_is)
    (case l21 => k_is)
    (case c21 => k_is)
    (case k21 => k_is)
    (case i21 => k_is)
    (case a22 => k_is)
    (case l22 => k_is)
    (case c22 => k_is)
    (case k22 => k_is)
    (case a23 => k_is)
    (case l23 => k_is)
    (case c23 => k_is)
    (case k23 => k_is)
    (case a24 => k_is)
    (case l24 => k_is)
    (case c24 => k_is)
    (case k24 => k_is)
    (case a25 => k_is)
    (case l25 => k_is)
    (case c25 => k_is)
    (case k25 => k_is)
    (case a26 => k_is)
    (case l26 => k_is)
    (case c26 => k_is)
    (case k26 => k_is)
    (case a27 => k_is)
    (case l27 => k_is)
    (case c27 => k_is)
    (case k27 => k_is)
    (case a28 => k_is)
    (case l28 => k_is)
    (case c28 => k_is)
    (case k28 => k_is)
    (case z_ValueError => k_is)
    (case z_abs => k_is)
    (case z_all => k_is)
    (case z_bool => k_is)
    (case z_dict => k_is)
    (case z_int => k_is)
    (case z_isinstance => k_is)
    (case z_len => k_is)
    (case z_list => k_is)
    (case z_max => k_is)
    (case z_min => k_is)
    (case z_range => k_is)
    (case z_sorted => k_is)
    (case z_str => k_is)
    (case z_sum => k_is)
    (case z_tuple => k_is)
    (case z_zip => k_is)
    (case q_LETTERS => k_is)
    (case q_MOST_BEGINNINGS => k_is)
    (case q_MOST_LETTERS => k_is)
    (case q_MOST_NAMES => k_is)
    (case q_MOST_NUMBER => k_is)
    (case q_MOST_SIZE => k_is)
    (case q_MOST_THINGS => k_is)
    (case q_MOST_TIMES => k_is)
    (case q_MOST_WAYS => k_is)
    (case q_MOST_WITHIN => k_is)
    (case q_NOUGHT => k_is)
    (case r_NOUGHT => k_is)
    (case q_ONE => k_is)
    (case r_ONE => k_is)
    (case q_REST => k_is)
    (case q_TWOS => k_is)
    (case r_TWOS => k_is)
    (case h_TellError => k_is)
    (case h_BadHouse => k_is)
    (case h_BadProgram => k_is)
    (case h_BadSight => k_is)
    (case h_BadTable => k_is)
    (case h_BadWeights => k_is)
    (case h_NotPlain => k_is)
    (case h_TooMany => k_is)
    (case xt_BadHouse => k_is)
    (case yd_BadHouse => k_is)
    (case xt_BadProgram => k_is)
    (case yd_BadProgram => k_is)
    (case xt_BadSight => k_is)
    (case yd_BadSight => k_is)
    (case xt_BadTable => k_is)
    (case yd_BadTable => k_is)
    (case xt_BadWeights => k_is)
    (case yd_BadWeights => k_is)
    (case xt_NotPlain => k_is)
    (case yd_NotPlain => k_is)
    (case xt_TellError => k_is)
    (case yd_TellError => k_is)
    (case xt_TooMany => k_is)
    (case yd_TooMany => k_is)
    (case xq_BadHouse => k_exc)
    (case xk_BadHouse => k_is)
    (case xs_BadHouse => k_is)
    (case xq_BadProgram => k_exc)
    (case xk_BadProgram => k_is)
    (case xs_BadProgram => k_is)
    (case xq_TooMany => k_exc)
    (case xk_TooMany => k_is)
    (case xs_TooMany => k_is)
    (case yn => k_is)
    (case yt => k_is)
    (case yg_BadHouse => k_is)
    (case yk_BadHouse => k_is)
    (case ya_BadHouse => k_is)
    (case ym_BadHouse => k_is)
    (case yn_BadHouse_BadProgram => decide)
    (case yi_BadHouse_BadProgram => k_is)
    (case yn_BadHouse_BadSight => decide)
    (case yi_BadHouse_BadSight => k_is)
    (case yn_BadHouse_BadTable => decide)
    (case yi_BadHouse_BadTable => k_is)
    (case yn_BadHouse_BadWeights => decide)
    (case yi_BadHouse_BadWeights => k_is)
    (case yn_BadHouse_NotPlain => decide)
    (case yi_BadHouse_NotPlain => k_is)
    (case yn_BadHouse_TooMany => decide)
    (case yi_BadHouse_TooMany => k_is)
    (case yv_BadHouse => k_is)
    (case yx_BadHouse => k_is)
    (case yg_BadProgram => k_is)
    (case yk_BadProgram => k_is)
    (case ya_BadProgram => k_is)
    (case ym_BadProgram => k_is)
    (case yn_BadProgram_BadHouse => decide)
    (case yi_BadProgram_BadHouse => k_is)
    (case yn_BadProgram_BadSight => decide)
    (case yi_BadProgram_BadSight => k_is)
    (case yn_BadProgram_BadTable => decide)
    (case yi_BadProgram_BadTable => k_is)
    (case yn_BadProgram_BadWeights => decide)
    (case yi_BadProgram_BadWeights => k_is)
    (case yn_BadProgram_NotPlain => decide)
    (case yi_BadProgram_NotPlain => k_is)
    (case yn_BadProgram_TooMany => decide)
    (case yi_BadProgram_TooMany => k_is)
    (case yv_BadProgram => k_is)
    (case yx_BadProgram => k_is)
    (case yg_TooMany => k_is)
    (case yk_TooMany => k_is)
    (case ya_TooMany => k_is)
    (case ym_TooMany => k_is)
    (case yn_TooMany_BadHouse => decide)
    (case yi_TooMany_BadHouse => k_is)
    (case yn_TooMany_BadProgram => decide)
    (case yi_TooMany_BadProgram => k_is)
    (case yn_TooMany_BadSight => decide)
    (case yi_TooMany_BadSight => k_is)
    (case yn_TooMany_BadTable => decide)
    (case yi_TooMany_BadTable => k_is)
    (case yn_TooMany_BadWeights => decide)
    (case yi_TooMany_BadWeights => k_is)
    (case yn_TooMany_NotPlain => decide)
    (case yi_TooMany_NotPlain => k_is)
    (case yv_TooMany => k_is)
    (case yx_TooMany => k_is)
    (case ytb => k_is)
#print axioms PySem.Challenge.cw_tellweight_k22_ways_at_the_bound_holds
