import PyProof.Rows.All
import Wide.All
import OpenK.AllK
import Wide.FinOn
import HandS.ForMost
import HandS.ForExc
import HandS.Walk
import HandS.Wide
import HandS.IsInst
import HandS.Deep
import HandS.Zip
import HandS.TupAny
import HandS.TupMul
import HandS.Style
import HandS.ExcCtx
import HandS.HotCalls
import HandS.ExcIs
import HandS.ExcOwn
import HandS.WordsExc
import HandS.Nested
import HandS.EndTab
import HandS.DictComp
import HandS.TupLe
import HandS.Set
import HandS.SetFor
import HandS.Strs
import KE.SortData
import KE.SortKeyHeap
import KE.KLam
import KE.KNestM
import HandS.Conv
import PySem.Challenge.RW_tellweight_k70_groups
set_option Elab.async false
set_option linter.all false
set_option maxRecDepth 100000
set_option maxHeartbeats 4000000
/-! PL, part a: data over the hand layer. A value of the heap stands for a datum; an expression is a function from a list of data to a datum. -/
namespace PL
open PySem L2

/-! a thing that is never unfolded but by its own row -/
theorem ex_shut {α : Sort u} (a : α) : ∃ x : α, x = a := ⟨a, rfl⟩
noncomputable def shut {α : Sort u} (a : α) : α := Classical.choose (ex_shut a)
theorem shut_eq {α : Sort u} (a : α) : shut a = a := Classical.choose_spec (ex_shut a)

/-- a reckoning: a datum, an error of the class number c, or nothing is said -/
inductive R (α : Type) where
  | ok (a : α)
  | ex (c : Nat)
  | no
namespace R
def bind {α β : Type} : R α → (α → R β) → R β
  | .ok a, k => k a
  | .ex c, _ => .ex c
  | .no, _ => .no
@[simp] theorem bind_ok {α β : Type} (a : α) (k : α → R β) : (R.ok a).bind k = k a := rfl
@[simp] theorem bind_ex {α β : Type} (c : Nat) (k : α → R β) : (R.ex c : R α).bind k = .ex c := rfl
@[simp] theorem bind_no {α β : Type} (k : α → R β) : (R.no : R α).bind k = .no := rfl
end R

/-! ### what stays of the tracked heap: all but code tables, which may grow -/
/-- the qualified name of the lambda at a place of the law's text -/
noncomputable def nmAt : Nat → Nat → Str := shut fun _ _ => "order_of.<locals>.<lambda>"
/-- the code tables that the law's defs write -/
noncomputable def tabs : List Addr := shut [178]
structure Same (G H : Hp) : Prop where
  ap : ∀ b o, G b = some o → (∀ ps, o ≠ .tbl ps) → H b = some o
  tb : ∀ b ps, G b = some (.tbl ps) → ∃ ps', H b = some (.tbl ps')
  tx : ∀ P, NdefX.TabN G P nmAt → NdefX.TabN H P nmAt
theorem Same.refl (H : Hp) : Same H H := ⟨fun _ _ h _ => h, fun _ ps h => ⟨ps, h⟩, fun _ h => h⟩
theorem Same.trans {H H1 H2 : Hp} (a : Same H H1) (b : Same H1 H2) : Same H H2 := ⟨fun c o h n => b.ap c o (a.ap c o h n) n, fun c ps h => by
  obtain ⟨ps', h'⟩ := a.tb c ps h
  exact b.tb c ps' h', fun P h => b.tx P (a.tx P h)⟩
theorem Same.there {H H' : Hp} (e : Same H H') {l : Addr} (h : H l ≠ none) : H' l ≠ none := by
  cases q : H l with
  | none => exact absurd q h
  | some o =>
    by_cases z : ∃ ps, o = .tbl ps
    · obtain ⟨ps, rfl⟩ := z
      obtain ⟨ps', h'⟩ := e.tb l ps q
      rw [h']
      simp
    · rw [e.ap l o q fun ps k => z ⟨ps, k⟩]
      simp
theorem Same.free {H H' : Hp} (e : Same H H') {l : Addr} (h : H' l = none) : H l = none := by
  cases q : H l with
  | none => rfl
  | some o => exact absurd h (e.there (by rw [q]; simp))
theorem Same.lst {H H' : Hp} (e : Same H H') {l : Addr} {xs : List V} (h : H l = some (.lst xs)) : H' l = some (.lst xs) := e.ap _ _ h fun _ z => by cases z
theorem Same.dK {H H' : Hp} (e : Same H H') {l : Addr} {xs : List (Key × V)} (h : H l = some (.dK xs)) : H' l = some (.dK xs) := e.ap _ _ h fun _ z => by cases z
/-- all of it stays -/
theorem Same.all {H H' : Hp} (e : ∀ b o, H b = some o → H' b = some o) : Same H H' := ⟨fun b o h _ => e b o h, fun b ps h => ⟨ps, e b _ h⟩, fun _ t => t.ext e⟩

def kD : Key → PyData
  | .inl i => .int i
  | .inr x => .str x
/-- a list that is read: tracked, or a plain one of the written part -/
def LsL (K : PySem.W.Frag) (G : Hp) (a : Addr) (xs : List V) : Prop :=
  Rd G a (.lst xs) ∨ ∃ (its : List Value) (n : Nat), K.lookup a = some { cls := .type "list", data := .seq its.toArray n } ∧ its.length ≤ sizeLine ∧ Vals xs its
theorem LsL.sq {K : PySem.W.Frag} {G : Hp} {a : Addr} {xs : List V} (h : LsL K G a xs) : SqL K G a xs := by
  rcases h with h | ⟨its, n, h1, h2, h3⟩
  · exact .inl h
  · exact .inr ⟨_, its.toArray, n, h1, rfl, rfl, rfl, by rw [List.size_toArray]; exact h2, by simpa using h3⟩
theorem LsL.of {K : PySem.W.Frag} {G : Hp} {a : Addr} {xs : List V} (h : G a = some (.lst xs)) : LsL K G a xs := .inl (.inl h)
mutual
/-- the value stands for the datum, in the heap G -/
inductive Rep (K : PySem.W.Frag) (G : Hp) : V → PyData → Prop
  | non : Rep K G .non .none
  | bl (b : Bool) : Rep K G (.bl b) (.bool b)
  | int (i : Int) : Rep K G (.int i) (.int i)
  | str (x : Str) : Rep K G (.str x) (.str x)
  | lst {a : Addr} {xs : List V} {ds : List PyData} : LsL K G a xs → RepA K G xs ds → Rep K G (.ref a) (.list ds)
  | tup {a : Addr} {xs : List V} {ds : List PyData} : SqT K G a xs → RepA K G xs ds → Rep K G (.ref a) (.tuple ds)
  | dct {a : Addr} {kvs : List (Key × V)} {ds : List (PyData × PyData)} : G a = some (.dK kvs) → (kvs.map (·.1)).Nodup → RepK K G kvs ds → Rep K G (.ref a) (.dict ds)
inductive RepA (K : PySem.W.Frag) (G : Hp) : List V → List PyData → Prop
  | nil : RepA K G [] []
  | cons {v : V} {vs : List V} {d : PyData} {ds : List PyData} : Rep K G v d → RepA K G vs ds → RepA K G (v :: vs) (d :: ds)
inductive RepK (K : PySem.W.Frag) (G : Hp) : List (Key × V) → List (PyData × PyData) → Prop
  | nil : RepK K G [] []
  | cons {k : Key} {v : V} {kvs : List (Key × V)} {d : PyData} {ds : List (PyData × PyData)} : Rep K G v d → RepK K G kvs ds → RepK K G ((k, v) :: kvs) ((kD k, d) :: ds)
end

theorem rd_same {G G' : Hp} (e : Same G G') {a : Addr} {u : HO} (h : Rd G a u) (hn : ∀ ps, u ≠ .tbl ps := by intro _ z; cases z) : Rd G' a u := by
  rcases h with h | ⟨o, h⟩
  · exact .inl (e.ap _ _ h hn)
  · exact .inr ⟨o, e.ap _ _ h fun _ z => by cases z⟩
theorem ls_same {K : PySem.W.Frag} {G G' : Hp} (e : Same G G') {a : Addr} {xs : List V} (h : LsL K G a xs) : LsL K G' a xs := by
  rcases h with h | h
  · exact .inl (rd_same e h)
  · exact .inr h
theorem sqT_same {K : PySem.W.Frag} {G G' : Hp} (e : Same G G') {a : Addr} {xs : List V} (h : SqT K G a xs) : SqT K G' a xs := by
  rcases h with h | h
  · exact .inl (rd_same e h)
  · exact .inr h
section
variable {K : PySem.W.Frag} {G G' : Hp} (e : Same G G')
include e
mutual
theorem Rep.mono : ∀ {v : V} {d : PyData}, Rep K G v d → Rep K G' v d
  | _, _, .non => .non
  | _, _, .bl b => .bl b
  | _, _, .int i => .int i
  | _, _, .str x => .str x
  | _, _, .lst h r => .lst (ls_same e h) (RepA.mono r)
  | _, _, .tup h r => .tup (sqT_same e h) (RepA.mono r)
  | _, _, .dct h n r => .dct (e.ap _ _ h fun _ z => by cases z) n (RepK.mono r)
theorem RepA.mono : ∀ {vs : List V} {ds : List PyData}, RepA K G vs ds → RepA K G' vs ds
  | _, _, .nil => .nil
  | _, _, .cons h r => .cons (Rep.mono h) (RepA.mono r)
theorem RepK.mono : ∀ {vs : List (Key × V)} {ds : List (PyData × PyData)}, RepK K G vs ds → RepK K G' vs ds
  | _, _, .nil => .nil
  | _, _, .cons h r => .cons (Rep.mono h) (RepK.mono r)
end
end
section
variable {K : PySem.W.Frag} {G : Hp}
theorem RepA.length : ∀ {vs : List V} {ds : List PyData}, RepA K G vs ds → vs.length = ds.length
  | _, _, .nil => rfl
  | _, _, .cons _ r => by rw [List.length_cons, List.length_cons, RepA.length r]
theorem RepA.get : ∀ {vs : List V} {ds : List PyData} {i : Nat} {d : PyData}, RepA K G vs ds → ds[i]? = some d → ∃ v, vs[i]? = some v ∧ Rep K G v d
  | _, _, _, _, .nil, e => by simp at e
  | _, _, 0, _, .cons r _, e => by simp at e; subst e; exact ⟨_, rfl, r⟩
  | _, _, i + 1, d, .cons _ t, e => by
    obtain ⟨v, h1, h2⟩ := RepA.get (i := i) (d := d) t (by simpa using e)
    exact ⟨v, by simpa using h1, h2⟩
theorem RepA.append : ∀ {vs ws : List V} {ds es : List PyData}, RepA K G vs ds → RepA K G ws es → RepA K G (vs ++ ws) (ds ++ es)
  | _, _, _, _, .nil, s => s
  | _, _, _, _, .cons r t, s => .cons r (RepA.append t s)
theorem RepA.take : ∀ {vs : List V} {ds : List PyData} (n : Nat), RepA K G vs ds → RepA K G (vs.take n) (ds.take n)
  | _, _, 0, _ => .nil
  | _, _, _ + 1, .nil => .nil
  | _, _, n + 1, .cons r t => .cons r (RepA.take n t)
theorem RepA.drop : ∀ {vs : List V} {ds : List PyData} (n : Nat), RepA K G vs ds → RepA K G (vs.drop n) (ds.drop n)
  | _, _, 0, r => r
  | _, _, _ + 1, .nil => .nil
  | _, _, n + 1, .cons _ t => RepA.drop n t
theorem RepA.set {v : V} {d : PyData} (r : Rep K G v d) : ∀ {vs : List V} {ds : List PyData} (i : Nat), RepA K G vs ds → RepA K G (vs.set i v) (ds.set i d)
  | _, _, _, .nil => .nil
  | _, _, 0, .cons _ t => .cons r t
  | _, _, i + 1, .cons q t => .cons q (RepA.set r i t)
theorem RepA.rep {vs : List V} {ds : List PyData} (h : RepA K G vs ds) : ∀ k : Nat, RepA K G (List.replicate k vs).flatten (List.replicate k ds).flatten
  | 0 => .nil
  | k + 1 => by
    rw [List.replicate_succ, List.replicate_succ, List.flatten_cons, List.flatten_cons]
    exact h.append (RepA.rep h k)
theorem RepA.ints : ∀ {vs : List V} {ns : List Int}, RepA K G vs (ns.map PyData.int) → vs = ns.map V.int
  | [], [], _ => rfl
  | v :: vs, n :: ns, h => by
    rw [List.map_cons] at h
    cases h with
    | cons h r => cases h; rw [RepA.ints r]; rfl
theorem RepA.bls : ∀ {vs : List V} {ns : List Bool}, RepA K G vs (ns.map PyData.bool) → vs = ns.map V.bl
  | [], [], _ => rfl
  | v :: vs, n :: ns, h => by
    rw [List.map_cons] at h
    cases h with
    | cons h r => cases h; rw [RepA.bls r]; rfl
theorem repA_ints : ∀ ns : List Int, RepA K G (ns.map V.int) (ns.map PyData.int)
  | [] => .nil
  | n :: ns => .cons (.int n) (repA_ints ns)
mutual
theorem Rep.dp : ∀ {v : V} {d : PyData}, Rep K G v d → d.canLay0 = true → Dp K G v d
  | _, _, .non, _ => .non
  | _, _, .bl b, _ => .bl b
  | _, _, .int i, _ => .int i
  | _, _, .str x, _ => .str x
  | _, _, .lst h r, c => .lst h.sq (RepA.dp r (by simpa [PyData.canLay0] using c))
  | _, _, .tup h r, c => .tup h (RepA.dp r (by simpa [PyData.canLay0] using c))
  | _, _, .dct h n r, c => by simp [PyData.canLay0] at c
theorem RepA.dp : ∀ {vs : List V} {ds : List PyData}, RepA K G vs ds → PyData.canLayAll0 ds = true → DpAll K G vs ds
  | _, _, .nil, _ => .nil
  | _, _, .cons h r, c => by
    unfold PyData.canLayAll0 at c
    rw [Bool.and_eq_true] at c
    exact .cons (Rep.dp h c.1) (RepA.dp r c.2)
end
end

/-- the view G and the heap H grow: what is new in the view is new in the heap -/
structure Ext (G H G' H' : Hp) : Prop where
  g : Same G G'
  h : Same H H'
  i : Same G' H'
  f : ∀ b, G' b ≠ none → G b = none → H b = none
theorem Ext.refl {G H : Hp} (i : Same G H) : Ext G H G H := ⟨Same.refl _, Same.refl _, i, fun _ h1 h2 => absurd h2 h1⟩
theorem Ext.trans {G H G1 H1 G2 H2 : Hp} (a : Ext G H G1 H1) (b : Ext G1 H1 G2 H2) : Ext G H G2 H2 :=
  ⟨a.g.trans b.g, a.h.trans b.h, b.i, fun c h1 h2 => by
    cases q : G1 c with
    | none => exact a.h.free (b.f c h1 q)
    | some o => exact a.f c (by rw [q]; simp) h2⟩
/-- the heap alone -/
theorem Ext.heap {G H H' : Hp} (i : Same G H) (h : Same H H') : Ext G H G H' := ⟨Same.refl _, h, i.trans h, fun _ h1 h2 => absurd h2 h1⟩
theorem same_new {H : Hp} {p : Addr} {o : HO} (n : H p = none) : Same H (upd H p o) := .all fun b u e => by
  rw [upd_ne (ne_of_none e n)]
  exact e
theorem same_upd {G H : Hp} {p : Addr} {o : HO} (i : Same G H) (n : H p = none) (hk : ∀ q, o ≠ LamX.CodeO p q) : Same (upd G p o) (upd H p o) := by
  have a : ∀ b u, upd G p o b = some u → (∀ ps, u ≠ .tbl ps) → upd H p o b = some u := fun b u e k => by
    by_cases hb : b = p
    · subst hb; rw [upd_same] at e ⊢; exact e
    · rw [upd_ne hb] at e ⊢; exact i.ap b u e k
  refine ⟨a, fun b ps e => ?_, fun P ⟨ps, h1, h2, h3⟩ => ?_⟩
  · by_cases hb : b = p
    · subst hb; rw [upd_same] at e ⊢; exact ⟨ps, e⟩
    · rw [upd_ne hb] at e ⊢; exact i.tb b ps e
  · by_cases hb : P = p
    · subst hb
      rw [upd_same] at h1
      refine ⟨ps, by rw [upd_same]; exact h1, h2, fun pos cv hc => ?_⟩
      obtain ⟨c, e1, e2⟩ := h3 pos cv hc
      exact ⟨c, e1, a _ _ e2 LamX.codeO_ne⟩
    · have hg : NdefX.TabN G P nmAt := by
        refine ⟨ps, by rwa [upd_ne hb] at h1, h2, fun pos cv hc => ?_⟩
        obtain ⟨c, e1, e2⟩ := h3 pos cv hc
        by_cases hc : c = p
        · subst hc
          rw [upd_same] at e2
          exact absurd (Option.some.inj e2) (hk _)
        · rw [upd_ne hc] at e2
          exact ⟨c, e1, e2⟩
      obtain ⟨ps', k1, k2, k3⟩ := i.tx P hg
      refine ⟨ps', by rw [upd_ne hb]; exact k1, k2, fun pos cv hc => ?_⟩
      obtain ⟨c, e1, e2⟩ := k3 pos cv hc
      by_cases hc : c = p
      · subst hc
        rw [n] at e2
        cases e2
      · exact ⟨c, e1, by rw [upd_ne hc]; exact e2⟩
/-- neither a table nor a code object -/
def Tame (u : HO) : Prop := (∀ ps, u ≠ .tbl ps) ∧ ∀ c q, u ≠ LamX.CodeO c q
theorem tame_lst (xs : List V) : Tame (.lst xs) := ⟨(fun _ z => by cases z), (fun _ _ z => by unfold LamX.CodeO at z; cases z)⟩
theorem tame_dK (xs : List (Key × V)) : Tame (.dK xs) := ⟨(fun _ z => by cases z), (fun _ _ z => by unfold LamX.CodeO at z; cases z)⟩
/-- a tame thing outside the view is written -/
theorem same_put {G H : Hp} {l : Addr} {u o : HO} (e : Same G H) (n : G l = none) (hl : H l = some u) (hu : Tame u) : Same G (upd H l o) := by
  have ne : ∀ b v, G b = some v → b ≠ l := fun b v q z => by rw [z, n] at q; cases q
  refine ⟨fun b v q k => by rw [upd_ne (ne b v q)]; exact e.ap b v q k, fun b ps q => by rw [upd_ne (ne b _ q)]; exact e.tb b ps q, fun P t => ?_⟩
  obtain ⟨ps, h1, h2, h3⟩ := e.tx P t
  have nP : P ≠ l := fun z => by subst z; rw [hl] at h1; exact hu.1 _ (Option.some.inj h1)
  refine ⟨ps, by rw [upd_ne nP]; exact h1, h2, fun pos cv hc => ?_⟩
  obtain ⟨c, e1, e2⟩ := h3 pos cv hc
  have nc : c ≠ l := fun z => by subst z; rw [hl] at e2; exact hu.2 _ _ (Option.some.inj e2)
  exact ⟨c, e1, by rw [upd_ne nc]; exact e2⟩
/-- a tame thing comes into the view -/
theorem same_in {G H : Hp} {l : Addr} {u : HO} (e : Same G H) (hl : H l = some u) (hu : Tame u) : Same (upd G l u) H := by
  have a : ∀ b v, upd G l u b = some v → (∀ ps, v ≠ .tbl ps) → H b = some v := fun b v q k => by
    by_cases hb : b = l
    · subst hb; rw [upd_same] at q; cases q; exact hl
    · rw [upd_ne hb] at q; exact e.ap b v q k
  refine ⟨a, fun b ps q => ?_, fun P ⟨ps, h1, h2, h3⟩ => e.tx P ⟨ps, ?_, h2, fun pos cv hc => ?_⟩⟩
  · by_cases hb : b = l
    · subst hb; rw [upd_same] at q; exact absurd (Option.some.inj q) (hu.1 _)
    · rw [upd_ne hb] at q; exact e.tb b ps q
  · by_cases hb : P = l
    · subst hb; rw [upd_same] at h1; exact absurd (Option.some.inj h1) (hu.1 _)
    · rwa [upd_ne hb] at h1
  · obtain ⟨c, e1, e2⟩ := h3 pos cv hc
    by_cases hb : c = l
    · subst hb; rw [upd_same] at e2; exact absurd (Option.some.inj e2) (hu.2 _ _)
    · rw [upd_ne hb] at e2; exact ⟨c, e1, e2⟩
/-- a new object, in the view too -/
theorem Ext.new {G H : Hp} {p : Addr} {o : HO} (i : Same G H) (n : H p = none) (hk : ∀ q, o ≠ LamX.CodeO p q := by intro _ z; unfold LamX.CodeO at z; cases z) : Ext G H (upd G p o) (upd H p o) := by
  have gn : G p = none := i.free n
  refine ⟨same_new gn, same_new n, same_upd i n hk, fun b h1 h2 => ?_⟩
  · by_cases hb : b = p
    · subst hb; exact n
    · rw [upd_ne hb] at h1; exact absurd h2 h1

/-- the tables are tables of the law's lambdas -/
def Tbs (G : Hp) : Prop := ∀ P ∈ tabs, NdefX.TabN G P nmAt
theorem Tbs.mono {G G' : Hp} (t : Tbs G) (e : Same G G') : Tbs G' := fun P h => e.tx P (t P h)
/-- the slots hold what env says -/
structure EnvR (K : PySem.W.Frag) (G : Hp) (σ : L2.St) (env : List (Option PyData)) : Prop where
  tb : Tbs G
  len : env.length ≤ σ.length
  at' : ∀ (i : Nat) (d : PyData), env[i]? = some (some d) → ∃ v, σ[i]? = some (some v) ∧ Rep K G v d
theorem EnvR.mono {K : PySem.W.Frag} {G G' : Hp} {σ : L2.St} {env : List (Option PyData)} (h : EnvR K G σ env) (e : Same G G') : EnvR K G' σ env := ⟨h.tb.mono e, h.len, fun i d q =>
  let ⟨v, h1, h2⟩ := h.at' i d q
  ⟨v, h1, h2.mono e⟩⟩

/-! ### expressions -/
abbrev EF := List (Option PyData) → R PyData
def Post (K : PySem.W.Frag) (ec : Nat → Addr) (W : WX) (σ : L2.St) (G H : Hp) (Q : VK) : R PyData → Prop
  | .ok d => ∀ v G' H', Ext G H G' H' → Rep K G' v d → Q v H'
  | .ex c => ∀ H', Same H H' → W (.ref (ec c)) none σ H'
  | .no => False
def tD (K : PySem.W.Frag) (ec : Nat → Addr) (W : WX) (f : EF) : TE := fun σ H Q => ∃ G env, Same G H ∧ EnvR K G σ env ∧ Post K ec W σ G H Q (f env)
section
variable {K : PySem.W.Frag} {ec : Nat → Addr} {W : WX} {σ : L2.St} {G H G' H' : Hp} {Q Q' : VK}
theorem Post.mono {r : R PyData} (e : Ext G H G' H') (h : Post K ec W σ G H Q r) : Post K ec W σ G' H' Q r := by
  cases r with
  | ok d => exact fun v G2 H2 e2 p => h v G2 H2 (e.trans e2) p
  | ex c => exact fun H2 s2 => h H2 (e.h.trans s2)
  | no => exact h
theorem Post.bind {r : R PyData} {k : PyData → R PyData} (h : Post K ec W σ G H Q (r.bind k)) (hk : ∀ v d G' H', r = .ok d → Ext G H G' H' → Rep K G' v d → Post K ec W σ G' H' Q (k d) → Q' v H') : Post K ec W σ G H Q' r := by
  cases r with
  | ok d => exact fun v G' H' e p => hk v d G' H' rfl e p (Post.mono e h)
  | ex c => exact h
  | no => exact h
end
theorem PE_imp {X : Cx} {e : Expr} {t t' : TE} (h : PE X e t) (k : ∀ σ H Q, t' σ H Q → t σ H Q) : PE X e t' := ⟨fun pins s σ H Q I q => h.run pins s σ H Q I (k _ _ _ q)⟩
theorem PT_imp {X : Cx} {e : Expr} {t t' : TT} (h : PT X e t) (k : ∀ σ H Q, t' σ H Q → t σ H Q) : PT X e t' := ⟨fun pins s σ H Q I q => h.run pins s σ H Q I (k _ _ _ q)⟩
theorem PW_imp {X : Cx} {e : Expr} {t t' : TT} (h : PW X e t) (k : ∀ σ H Q, t' σ H Q → t σ H Q) : PW X e t' := ⟨fun wh pins s σ H Q I q => h.run wh pins s σ H Q I (k _ _ _ q)⟩
theorem PA_imp {X : Cx} {es : List Expr} {t t' : TA} (h : PA X es t) (k : ∀ σ H Q, t' σ H Q → t σ H Q) : PA X es t' := ⟨fun pos pins s σ H Q I q => h.run pos pins s σ H Q I (k _ _ _ q)⟩
theorem PS_imp {X : Cx} {e : Stmt} {t t' : TS} (h : PS X e t) (k : ∀ D σ H, t' D σ H → t D σ H) : PS X e t' := ⟨fun pins s σ H D I q => h.run pins s σ H D I (k _ _ _ q)⟩
theorem PSs_imp {X : Cx} {e : List Stmt} {t t' : TS} (h : PSs X e t) (k : ∀ D σ H, t' D σ H → t D σ H) : PSs X e t' := ⟨fun pins s σ H D I q => h.run pins s σ H D I (k _ _ _ q)⟩

def eVar (i : Nat) (env : List (Option PyData)) : R PyData := match env[i]? with
  | some (some d) => .ok d
  | _ => .no
def eC (d : PyData) (_ : List (Option PyData)) : R PyData := .ok d
def eBin (g : PyData → PyData → R PyData) (fa fb : EF) (env : List (Option PyData)) : R PyData := (fa env).bind fun x => (fb env).bind (g x)
def eUn (g : PyData → R PyData) (fa : EF) (env : List (Option PyData)) : R PyData := (fa env).bind g
/-- a rule for two values is a function on data -/
def OpD (K : PySem.W.Frag) (r : R2) (g : PyData → PyData → R PyData) : Prop :=
  ∀ (x y : V) (dx dy d : PyData) (G H : Hp) (Q : VK), Same G H → Rep K G x dx → Rep K G y dy → g dx dy = .ok d → (∀ v G' H', Ext G H G' H' → Rep K G' v d → Q v H') → r x y H Q
/-- it never tells an error -/
def NoEx (g : PyData → PyData → R PyData) : Prop := ∀ x y c, g x y ≠ .ex c
def UnD (K : PySem.W.Frag) (r : V → Hp → VK → Prop) (g : PyData → R PyData) : Prop :=
  ∀ (x : V) (dx d : PyData) (G H : Hp) (Q : VK), Same G H → Rep K G x dx → g dx = .ok d → (∀ v G' H', Ext G H G' H' → Rep K G' v d → Q v H') → r x H Q
section
variable {X : Cx} {ec : Nat → Addr} {W : WX} {a b e : Expr} {fa fb f : EF} {pos : Pos}
theorem se_var (i : Nat) {x : Str} (hN : X.N[i]? = some x := by rfl) (hv : Vis X.env.scope x := by first | exact Or.inl rfl | exact Or.inr (Or.inl rfl) | exact Or.inr (Or.inr rfl)) (hd : (x == ("__debug__" : Str)) = false := by decide)
    (hcd : (x == ("__classdict__" : Str)) = false := by decide) : PE X (.Name x pos) (tD X.K ec W (eVar i)) :=
  PE_imp (pe_var hN hv hd hcd) fun σ H Q ⟨G, env, s, E, p⟩ => by
    unfold eVar at p
    split at p
    · rename_i d h
      obtain ⟨v, h1, h2⟩ := E.at' i d h
      exact ⟨v, h1, p v G H (Ext.refl s) h2⟩
    · exact p.elim
theorem se_c {v : V} {d : PyData} (h : PE X e (tC v)) (r : ∀ G, Rep X.K G v d) : PE X e (tD X.K ec W (eC d)) :=
  PE_imp h fun σ H Q ⟨G, env, s, E, p⟩ => p v G H (Ext.refl s) (r G)
theorem se_int {i : Int} {j : Nat} : PE X (.Constant (.int i) j pos) (tD X.K ec W (eC (.int i))) := se_c pe_int fun _ => .int i
theorem se_str {x : Str} {j : Nat} : PE X (.Constant (.str x) j pos) (tD X.K ec W (eC (.str x))) := se_c pe_str fun _ => .str x
theorem se_bl {x : Bool} {j : Nat} : PE X (.Constant (.bool x) j pos) (tD X.K ec W (eC (.bool x))) := se_c pe_bl fun _ => .bl x
theorem se_non {j : Nat} : PE X (.Constant .none j pos) (tD X.K ec W (eC .none)) := se_c pe_non fun _ => .non
theorem tOp_D {K : PySem.W.Frag} {r : R2} {g : PyData → PyData → R PyData} (hg : OpD K r g) (hx : NoEx g) {σ : L2.St} {H : Hp} {Q : VK} : tD K ec W (eBin g fa fb) σ H Q → tOp r (tD K ec W fa) (tD K ec W fb) σ H Q := by
  rintro ⟨G, env, s, E, p⟩
  refine ⟨G, env, s, E, Post.bind p fun x dx G1 H1 _ e1 r1 p1 => ?_⟩
  refine ⟨G1, env, e1.i, E.mono e1.g, Post.bind p1 fun y dy G2 H2 _ e2 r2 p2 => ?_⟩
  cases q : g dx dy with
  | ok d => rw [q] at p2; exact hg x y dx dy d G2 H2 Q e2.i (r1.mono e2.g) r2 q p2
  | ex c => exact absurd q (hx dx dy c)
  | no => rw [q] at p2; exact p2.elim
theorem tUn_D {K : PySem.W.Frag} {r : V → Hp → VK → Prop} {g : PyData → R PyData} (hg : UnD K r g) (hx : ∀ x c, g x ≠ .ex c) {σ : L2.St} {H : Hp} {Q : VK} : tD K ec W (eUn g fa) σ H Q → tUn r (tD K ec W fa) σ H Q := by
  rintro ⟨G, env, s, E, p⟩
  refine ⟨G, env, s, E, Post.bind p fun x dx G1 H1 _ e1 r1 p1 => ?_⟩
  cases q : g dx with
  | ok d => rw [q] at p1; exact hg x dx d G1 H1 Q e1.i r1 q p1
  | ex c => exact absurd q (hx dx c)
  | no => rw [q] at p1; exact p1.elim
theorem se_bin {op : Operator} {r : R2} {g : PyData → PyData → R PyData} (ho : OpR X (binaryOp op) r) (hg : OpD X.K r g) (hx : NoEx g) (ha : PE X a (tD X.K ec W fa)) (hb : PE X b (tD X.K ec W fb)) :
    PE X (.BinOp a op b pos) (tD X.K ec W (eBin g fa fb)) := PE_imp (pe_op ho ha hb) fun _ _ _ => tOp_D hg hx
theorem se_cmp {op : CmpOp} {r : R2} {g : PyData → PyData → R PyData} (ho : OpR X (compareOp op) r) (hg : OpD X.K r g) (hx : NoEx g) (ha : PE X a (tD X.K ec W fa)) (hb : PE X b (tD X.K ec W fb)) (hm : behindInMarks op b = false) :
    PE X (.Compare a [op] [b] pos) (tD X.K ec W (eBin g fa fb)) := PE_imp (pe_cmpR ho ha hb hm) fun _ _ _ => tOp_D hg hx
theorem se_ix {r : R2} {g : PyData → PyData → R PyData} (ho : IxR X r) (hg : OpD X.K r g) (hx : NoEx g) (ha : PE X a (tD X.K ec W fa)) (hb : PE X b (tD X.K ec W fb)) (hs : PlainIx b) :
    PE X (.Subscript a b pos) (tD X.K ec W (eBin g fa fb)) := PE_imp (pe_ix ho ha hb hs) fun _ _ _ => tOp_D hg hx
theorem se_un {op : UnaryOp} {r : V → Hp → VK → Prop} {g : PyData → R PyData} (ho : UnR X (unaryOp op) r) (hg : UnD X.K r g) (hx : ∀ x c, g x ≠ .ex c) (ha : PE X a (tD X.K ec W fa)) :
    PE X (.UnaryOp op a pos) (tD X.K ec W (eUn g fa)) := PE_imp (pe_un ho ha) fun _ _ _ => tUn_D hg hx
end
end PL
/-! PL, part b: operators, tests, argument lists, displays. -/
namespace PL
open PySem PySem.Spec PyProof.Rows L2

/-! ### operators on data -/
noncomputable def szl : Nat := shut 1000000
theorem szl_eq : szl = 1000000 := shut_eq _
noncomputable def lim : Int := shut 1000000
theorem lim_eq : lim = 1000000 := shut_eq _
theorem szl_line {n : Nat} (h : n ≤ szl) : n ≤ sizeLine := Nat.le_trans h (by rw [szl_eq]; decide)
noncomputable def mulOk (a b : Int) : Bool := shut (decide (-(2 ^ 64) < a) && decide (a < 2 ^ 64) || (decide (-(2 ^ 64) < b) && decide (b < 2 ^ 64)) || decide (a.natAbs.log2 + b.natAbs.log2 < 1000000))
theorem mulOk_eq (a b : Int) : mulOk a b = (decide (-(2 ^ 64) < a) && decide (a < 2 ^ 64) || (decide (-(2 ^ 64) < b) && decide (b < 2 ^ 64)) || decide (a.natAbs.log2 + b.natAbs.log2 < 1000000)) := shut_eq _
theorem mulOk_ok {a b : Int} (h : mulOk a b = true) : IntMulOk a b := by
  rw [mulOk_eq] at h
  rw [Bool.or_eq_true, Bool.or_eq_true, Bool.and_eq_true, Bool.and_eq_true, decide_eq_true_eq, decide_eq_true_eq, decide_eq_true_eq, decide_eq_true_eq, decide_eq_true_eq] at h
  rcases h with (h | h) | h
  · exact IntMulOk.of_left (intBits_le_64 h.1 h.2)
  · exact IntMulOk.of_right (intBits_le_64 h.1 h.2)
  · exact CMulW.ok h
noncomputable def divOk (b : Int) : Bool := shut (decide (0 < b) && decide (b.natAbs.log2 < 9000))
theorem divOk_eq (b : Int) : divOk b = (decide (0 < b) && decide (b.natAbs.log2 < 9000)) := shut_eq _
noncomputable def dAdd : PyData → PyData → R PyData
  | .int a, .int b => .ok (.int (a + b))
  | .list a, .list b => if a.length + b.length ≤ szl then .ok (.list (a ++ b)) else .no
  | .tuple a, .tuple b => if a.length + b.length ≤ szl then .ok (.tuple (a ++ b)) else .no
  | _, _ => .no
def dSub : PyData → PyData → R PyData
  | .int a, .int b => .ok (.int (a - b))
  | _, _ => .no
noncomputable def dMul : PyData → PyData → R PyData
  | .int a, .int b => if mulOk a b = true then .ok (.int (a * b)) else .no
  | .list a, .int k => if a.length * k.toNat ≤ szl ∧ k < lim ∧ -lim < k then .ok (.list (List.replicate k.toNat a).flatten) else .no
  | .tuple a, .int k => if a ≠ [] ∧ 2 ≤ k ∧ k ≤ 1000 ∧ a.length ≤ 1000 then .ok (.tuple (List.replicate k.toNat a).flatten) else .no
  | _, _ => .no
noncomputable def dDiv : PyData → PyData → R PyData
  | .int a, .int b => if divOk b = true then .ok (.int (a / b)) else .no
  | _, _ => .no
def dMod : PyData → PyData → R PyData
  | .int a, .int b => if 0 < b then .ok (.int (a % b)) else .no
  | _, _ => .no
noncomputable def dPow : PyData → PyData → R PyData
  | .int a, .int b => if 0 ≤ b ∧ b ≤ lim ∧ a.natAbs < 2 ^ 64 then .ok (.int (a ^ b.toNat)) else .no
  | _, _ => .no
def dEq (x y : PyData) : R PyData := if SeqAt.shaped x = true ∧ SeqAt.shaped y = true then .ok (.bool (PyData.eqv x y)) else .no
def dNe (x y : PyData) : R PyData := if SeqAt.shaped x = true ∧ SeqAt.shaped y = true then .ok (.bool (!PyData.eqv x y)) else .no
def strLt (x y : Str) : Bool := decide (x.cps.toList < y.cps.toList)
def strLe (x y : Str) : Bool := !decide (y.cps.toList < x.cps.toList)
def dLt : PyData → PyData → R PyData
  | .int a, .int b => .ok (.bool (decide (a < b)))
  | _, _ => .no
def dLe : PyData → PyData → R PyData
  | .int a, .int b => .ok (.bool (decide (a ≤ b)))
  | _, _ => .no
def dGt : PyData → PyData → R PyData
  | .int a, .int b => .ok (.bool (decide (b < a)))
  | _, _ => .no
def dGe : PyData → PyData → R PyData
  | .int a, .int b => .ok (.bool (decide (b ≤ a)))
  | _, _ => .no
def isNone : PyData → Bool
  | .none => true
  | _ => false
def dIs : PyData → PyData → R PyData
  | x, .none => .ok (.bool (isNone x))
  | .bool a, .bool b => .ok (.bool (decide (a = b)))
  | _, _ => .no
def dIsNot : PyData → PyData → R PyData
  | x, .none => .ok (.bool (!isNone x))
  | .bool a, .bool b => .ok (.bool (!decide (a = b)))
  | _, _ => .no
/-- the item at an index of any sign -/
def dIx : PyData → PyData → R PyData
  | .list xs, .int i => match atI xs i with
    | some d => .ok d
    | none => .no
  | .tuple xs, .int i => match atI xs i with
    | some d => .ok d
    | none => .no
  | _, _ => .no
def dNeg : PyData → R PyData
  | .int a => .ok (.int (-a))
  | _ => .no

section
variable {K : PySem.W.Frag} {G H : Hp}
theorem ext_list {xs : List V} {ds : List PyData} {p : Addr} (i : Same G H) (n : H p = none) (r : RepA K G xs ds) : Rep K (upd G p (.lst xs)) (.ref p) (.list ds) :=
  .lst (.of upd_same) (r.mono (same_new (i.free n)))
theorem ext_tup {xs : List V} {ds : List PyData} {p : Addr} (i : Same G H) (n : H p = none) (r : RepA K G xs ds) : Rep K (upd G p (.tup xs)) (.ref p) (.tuple ds) :=
  .tup (.inl (.inl upd_same)) (r.mono (same_new (i.free n)))
end
section
variable {X : Cx}
/-- the object of a list that is read -/
theorem ls_obj {pins : List (Addr × Obj)} {σ : L2.St} {H : Hp} {s : Shared} {a : Addr} {xs : List V} (I : Inv X pins σ H s) (h : LsL X.K H a xs) :
    ∃ (its : List Value) (n : Nat), Vals xs its ∧ its.length = xs.length ∧ xs.length ≤ sizeLine ∧ s.heap.get? a = some { cls := .type "list", data := .seq its.toArray n } := by
  rcases h with h | ⟨its, n, h1, h2, h3⟩
  · obtain ⟨z, its, n, r, e⟩ := h.ok I.hok
    exact ⟨its, n, r, r.length.symm, z, e⟩
  · exact ⟨its, n, h3, h3.length.symm, by rw [h3.length]; exact h2, I.kIn _ _ h1⟩
/-- list + list, both only read -/
def rCatR (K : PySem.W.Frag) : R2 := fun x y H Q => ∃ l b xs zs, x = .ref l ∧ y = .ref b ∧ LsL K H l xs ∧ LsL K H b zs ∧ xs.length + zs.length ≤ sizeLine ∧ ∀ p, H p = none → Q (.ref p) (upd H p (.lst (xs ++ zs)))
theorem op_catR : OpR X (binaryOp .Add) (rCatR X.K) := fun pins s σ H x y v u Q I rx ry ⟨l, b, xs, zs, ex, ey, hl, hb, hz, q⟩ => by
  subst ex ey
  obtain rfl : v = Value.ref l := rx
  obtain rfl : u = Value.ref b := ry
  obtain ⟨is, n, r1, l1, _, o1⟩ := ls_obj I hl
  obtain ⟨js, m, r2, l2, _, o2⟩ := ls_obj I hb
  have fit : is.toArray.size + js.toArray.size ≤ sizeLine := by simp only [List.size_toArray, l1, l2]; exact hz
  have glue : is.toArray ++ js.toArray = (is ++ js).toArray := by simp
  refine PySem.P.add_list o1 o2 (glue ▸ ?_) fit
  have long : (xs ++ zs).length ≤ sizeLine := by simp only [List.length_append]; exact hz
  exact ⟨.ref _, _, I.lnew (t' := s.toks) (r1.append r2) long, rfl, q _ I.fresh⟩
def rAddP (K : PySem.W.Frag) : R2 := fun x y H Q => rI0 (fun i j => .int (i + j)) x y H Q ∨ rCatR K x y H Q ∨ rCatA K x y H Q
theorem op_addP : OpR X (binaryOp .Add) (rAddP X.K) := op_add.or (op_catR.or op_catA)
theorem od_add {K : PySem.W.Frag} : OpD K (rAddP K) dAdd := by
  intro x y dx dy d G H Q i rx ry h q
  cases rx with
  | int a =>
    cases ry with
    | int b => cases h; exact .inl ⟨a, b, rfl, rfl, q _ G H (Ext.refl i) (.int _)⟩
    | _ => cases h
  | @lst a xs ds ha r =>
    cases ry with
    | @lst b zs es hb r2 =>
      simp only [dAdd] at h
      split at h
      · rename_i hz
        cases h
        refine .inr (.inl ⟨a, b, xs, zs, rfl, rfl, ls_same i ha, ls_same i hb, szl_line (by rw [r.length, r2.length]; exact hz), fun p n => ?_⟩)
        exact q _ _ _ (Ext.new i n) (ext_list i n (r.append r2))
      · cases h
    | _ => cases h
  | @tup a xs ds ha r =>
    cases ry with
    | @tup b zs es hb r2 =>
      simp only [dAdd] at h
      split at h
      · rename_i hz
        cases h
        refine .inr (.inr ⟨a, b, xs, zs, rfl, rfl, sqT_same i ha, sqT_same i hb, szl_line (by rw [r.length, r2.length]; exact hz), fun e => ?_, fun _ e => ?_, fun _ _ p n => ?_⟩)
        · subst e
          cases r
          exact q _ G H (Ext.refl i) (.tup hb r2)
        · subst e
          cases r2
          exact q _ G H (Ext.refl i) (.tup ha (by rw [List.append_nil]; exact r))
        · exact q _ _ _ (Ext.new i n) (ext_tup i n (r.append r2))
      · cases h
    | _ => cases h
  | _ => cases h
theorem nx_add : NoEx dAdd := by
  intro x y c h
  unfold dAdd at h
  split at h
  · cases h
  · split at h <;> cases h
  · split at h <;> cases h
  · cases h
theorem od_sub {K : PySem.W.Frag} : OpD K (rI0 fun i j => .int (i - j)) dSub := by
  intro x y dx dy d G H Q i rx ry h q
  cases rx with
  | int a =>
    cases ry with
    | int b => cases h; exact ⟨a, b, rfl, rfl, q _ G H (Ext.refl i) (.int _)⟩
    | _ => cases h
  | _ => cases h
theorem nx_sub : NoEx dSub := by
  intro x y c h
  unfold dSub at h
  split at h <;> cases h
/-- list * int, the list only read -/
def rRepR (K : PySem.W.Frag) : R2 := fun x y H Q => ∃ l k xs, x = .ref l ∧ y = .int k ∧ LsL K H l xs ∧ -(2 ^ 63) ≤ k ∧ k < 2 ^ 63 ∧ xs.length * k.toNat ≤ sizeLine ∧
  ∀ p, H p = none → Q (.ref p) (upd H p (.lst (List.replicate k.toNat xs).flatten))
theorem rep_array (is : List Value) (m : Nat) : List.foldl (fun x1 x2 => x1 ++ x2) #[] (List.replicate (if is.toArray.isEmpty = true then 0 else m) is.toArray) = (List.replicate m is).flatten.toArray := by
  have all := foldl_rep is
  cases is with
  | nil => simpa using all 0 []
  | cons z zs => simpa using all m []
theorem op_repR : OpR X (binaryOp .Mult) (rRepR X.K) := fun pins s σ H x y v u Q I rx ry ⟨l, k, xs, ex, ey, hl, lo, hi, hz, q⟩ => by
  subst ex ey
  obtain rfl : v = Value.ref l := rx
  obtain ⟨t, rfl⟩ : ∃ t, u = Value.int k t := ry
  obtain ⟨is, n, r1, l1, _, o1⟩ := ls_obj I hl
  have fit : is.toArray.size * k.toNat ≤ sizeLine := by simp only [List.size_toArray, l1]; exact hz
  have c1 : ¬ (!Builtin.List.listFitsIndex k) = true := by simp [fitsIndex_both lo hi]
  have c2 : ¬ is.toArray.size * k.toNat > (2 ^ 63 - 1) / 8 := Nat.not_lt.mpr (Nat.le_trans fit (by decide))
  have c3 : ¬ Builtin.List.listTooLong (is.toArray.size * k.toNat) = true := by rw [notLongL fit]; exact Bool.false_ne_true
  have inner := AutoListH.list___mul___list_int_3 l is.toArray n k t c1 c2 c3
  have fin : EP X pins σ Q (.ref s.heap.objs.size) { s with heap := s.heap.push { cls := .type "list", data := .seq (List.replicate k.toNat is).flatten.toArray } } :=
    ⟨.ref _, _, I.lnew (t' := s.toks) (r1.rep k.toNat) (by rw [PyProof.Rows.lm_len_rep_flat, Nat.mul_comm]; exact hz), rfl, q _ I.fresh⟩
  rw [← rep_array is k.toNat] at fin
  exact wpAny_binaryOp_repeat_ref (T := "list") (U := "int") (by decide) ⟨_, o1, rfl⟩ (fun s' => typeIs_int s' k t) noFill_list_mul F.fills_int_mul F.slot_int_rmul repeat_list F.slot_int_index.lookup
    (call_meets F.slot_int_rmul (typeIs_int s k t) F.entry_int_rmul (F.args_int_rmul_2 _ _) (int___rmul___int_list k t l is.toArray n) ⟨o1, rfl, ⟨_, o1, rfl⟩, call_meets F.slot_list_mul ⟨_, o1, rfl⟩ F.entry_list_mul (F.args_list_mul_2 _ _) inner ⟨o1, fin⟩⟩)
end
end PL
/-! PL, part c: more operators, tests, argument lists, displays, calls. -/
namespace PL
open PySem PySem.Spec PyProof.Rows L2
section
variable {X : Cx} {K : PySem.W.Frag}
def rMulP (K : PySem.W.Frag) : R2 := fun x y H Q => rI (fun i j => mulOk i j = true) (fun i j => .int (i * j)) x y H Q ∨ rRepR K x y H Q ∨ rRepT K x y H Q
theorem op_mulI : OpR X (binaryOp .Mult) (rI (fun i j => mulOk i j = true) fun i j => .int (i * j)) := opI fun _ _ _ _ _ _ _ hc q => mul_int q (mulOk_ok hc)
theorem op_mulP : OpR X (binaryOp .Mult) (rMulP X.K) := op_mulI.or (op_repR.or op_repT)
theorem od_mul : OpD K (rMulP K) dMul := by
  intro x y dx dy d G H Q i rx ry h q
  cases rx with
  | int a =>
    cases ry with
    | int b =>
      simp only [dMul] at h
      split at h
      · rename_i hm
        cases h
        exact .inl ⟨a, b, rfl, rfl, hm, q _ G H (Ext.refl i) (.int _)⟩
      · cases h
    | _ => cases h
  | @lst a xs ds ha r =>
    cases ry with
    | int k =>
      simp only [dMul] at h
      split at h
      · rename_i hz
        cases h
        have hlim := lim_eq
        refine .inr (.inl ⟨a, k, xs, rfl, rfl, ls_same i ha, by omega, by omega, szl_line (by rw [r.length]; exact hz.1), fun p n => ?_⟩)
        exact q _ _ _ (Ext.new i n) (ext_list i n (r.rep _))
      · cases h
    | _ => cases h
  | @tup a xs ds ha r =>
    cases ry with
    | int k =>
      simp only [dMul] at h
      split at h
      · rename_i hz
        cases h
        have hl := r.length
        refine .inr (.inr ⟨a, k, xs, rfl, rfl, sqT_same i ha, fun e => ?_, hz.2.1, hz.2.2.1, by rw [hl]; exact hz.2.2.2, fun p n => ?_⟩)
        · subst e
          cases r
          exact hz.1 rfl
        · exact q _ _ _ (Ext.new i n) (ext_tup i n (r.rep _))
      · cases h
    | _ => cases h
  | _ => cases h
theorem nx_mul : NoEx dMul := by
  intro x y c h
  unfold dMul at h
  split at h
  · split at h <;> cases h
  · split at h <;> cases h
  · split at h <;> cases h
  · cases h
theorem od_div : OpD K (rI CDivW fun i j => .int (i / j)) dDiv := by
  intro x y dx dy d G H Q i rx ry h q
  cases rx with
  | int a =>
    cases ry with
    | int b =>
      simp only [dDiv] at h
      split at h
      · rename_i hm
        cases h
        rw [divOk_eq] at hm
        rw [Bool.and_eq_true, decide_eq_true_eq, decide_eq_true_eq] at hm
        exact ⟨a, b, rfl, rfl, hm, q _ G H (Ext.refl i) (.int _)⟩
      · cases h
    | _ => cases h
  | _ => cases h
theorem nx_div : NoEx dDiv := by
  intro x y c h
  unfold dDiv at h
  split at h
  · split at h <;> cases h
  · cases h
theorem od_mod : OpD K (rI (fun _ j => 0 < j) fun i j => .int (i % j)) dMod := by
  intro x y dx dy d G H Q i rx ry h q
  cases rx with
  | int a =>
    cases ry with
    | int b =>
      simp only [dMod] at h
      split at h
      · rename_i hm
        cases h
        exact ⟨a, b, rfl, rfl, hm, q _ G H (Ext.refl i) (.int _)⟩
      · cases h
    | _ => cases h
  | _ => cases h
theorem nx_mod : NoEx dMod := by
  intro x y c h
  unfold dMod at h
  split at h
  · split at h <;> cases h
  · cases h
theorem od_pow : OpD K (rI CPow fun i j => .int (i ^ j.toNat)) dPow := by
  intro x y dx dy d G H Q i rx ry h q
  cases rx with
  | int a =>
    cases ry with
    | int b =>
      simp only [dPow] at h
      split at h
      · rename_i hm
        cases h
        exact ⟨a, b, rfl, rfl, by rw [lim_eq] at hm; exact hm, q _ G H (Ext.refl i) (.int _)⟩
      · cases h
    | _ => cases h
  | _ => cases h
theorem nx_pow : NoEx dPow := by
  intro x y c h
  unfold dPow at h
  split at h
  · split at h <;> cases h
  · cases h
theorem od_eq : OpD K (rEqD K) dEq := by
  intro x y dx dy d G H Q i rx ry h q
  unfold dEq at h
  split at h
  · rename_i hs
    cases h
    exact ⟨dx, dy, (rx.mono i).dp (SeqAt.canLay_of_shaped hs.1), (ry.mono i).dp (SeqAt.canLay_of_shaped hs.2), hs.1, hs.2, q _ G H (Ext.refl i) (.bl _)⟩
  · cases h
theorem od_ne : OpD K (rNeD K) dNe := by
  intro x y dx dy d G H Q i rx ry h q
  unfold dNe at h
  split at h
  · rename_i hs
    cases h
    exact ⟨dx, dy, (rx.mono i).dp (SeqAt.canLay_of_shaped hs.1), (ry.mono i).dp (SeqAt.canLay_of_shaped hs.2), hs.1, hs.2, q _ G H (Ext.refl i) (.bl _)⟩
  · cases h
theorem nx_eq : NoEx dEq := by
  intro x y c h
  unfold dEq at h
  split at h <;> cases h
theorem nx_ne : NoEx dNe := by
  intro x y c h
  unfold dNe at h
  split at h <;> cases h
theorem od_lt : OpD K (rI0 fun i j => .bl (decide (i < j))) dLt := by
  intro x y dx dy d G H Q i rx ry h q
  cases rx with
  | int a =>
    cases ry with
    | int b => cases h; exact ⟨a, b, rfl, rfl, q _ G H (Ext.refl i) (.bl _)⟩
    | _ => cases h
  | _ => cases h
theorem od_le : OpD K (rI0 fun i j => .bl (decide (i ≤ j))) dLe := by
  intro x y dx dy d G H Q i rx ry h q
  cases rx with
  | int a =>
    cases ry with
    | int b => cases h; exact ⟨a, b, rfl, rfl, q _ G H (Ext.refl i) (.bl _)⟩
    | _ => cases h
  | _ => cases h
theorem od_gt : OpD K (rI0 fun i j => .bl (decide (j < i))) dGt := by
  intro x y dx dy d G H Q i rx ry h q
  cases rx with
  | int a =>
    cases ry with
    | int b => cases h; exact ⟨a, b, rfl, rfl, q _ G H (Ext.refl i) (.bl _)⟩
    | _ => cases h
  | _ => cases h
theorem od_ge : OpD K (rI0 fun i j => .bl (decide (j ≤ i))) dGe := by
  intro x y dx dy d G H Q i rx ry h q
  cases rx with
  | int a =>
    cases ry with
    | int b => cases h; exact ⟨a, b, rfl, rfl, q _ G H (Ext.refl i) (.bl _)⟩
    | _ => cases h
  | _ => cases h
theorem nx_lt : NoEx dLt := by
  intro x y c h
  unfold dLt at h
  split at h <;> cases h
theorem nx_le : NoEx dLe := by
  intro x y c h
  unfold dLe at h
  split at h <;> cases h
theorem nx_gt : NoEx dGt := by
  intro x y c h
  unfold dGt at h
  split at h <;> cases h
theorem nx_ge : NoEx dGe := by
  intro x y c h
  unfold dGe at h
  split at h <;> cases h
theorem non_iff {G : Hp} {x : V} {d : PyData} (r : Rep K G x d) : decide (x = .non) = isNone d := by cases r <;> rfl
def rIsP : R2 := fun x y H Q => (y = .non ∧ Q (.bl (decide (x = .non))) H) ∨ rIsB x y H Q
def rNotP : R2 := fun x y H Q => (y = .non ∧ Q (.bl (!decide (x = .non))) H) ∨ rNotB x y H Q
theorem op_isP : OpR X (compareOp .Is) rIsP := op_isN.or op_isBl
theorem op_notP : OpR X (compareOp .IsNot) rNotP := op_notN.or op_notBl
theorem od_is : OpD K rIsP dIs := by
  intro x y dx dy d G H Q i rx ry h q
  cases ry with
  | non =>
    cases h
    exact .inl ⟨rfl, by rw [non_iff rx]; exact q _ G H (Ext.refl i) (.bl _)⟩
  | bl b =>
    cases rx with
    | bl a => cases h; exact .inr ⟨a, b, rfl, rfl, q _ G H (Ext.refl i) (.bl _)⟩
    | _ => cases h
  | _ => cases rx <;> cases h
theorem od_isNot : OpD K rNotP dIsNot := by
  intro x y dx dy d G H Q i rx ry h q
  cases ry with
  | non =>
    cases h
    exact .inl ⟨rfl, by rw [non_iff rx]; exact q _ G H (Ext.refl i) (.bl _)⟩
  | bl b =>
    cases rx with
    | bl a => cases h; exact .inr ⟨a, b, rfl, rfl, q _ G H (Ext.refl i) (.bl _)⟩
    | _ => cases h
  | _ => cases rx <;> cases h
theorem nx_is : NoEx dIs := by
  intro x y c h
  unfold dIs at h
  split at h <;> cases h
theorem nx_isNot : NoEx dIsNot := by
  intro x y c h
  unfold dIsNot at h
  split at h <;> cases h
theorem RepA.atI {G : Hp} {vs : List V} {ds : List PyData} {i : Int} {d : PyData} (r : RepA K G vs ds) (h : L2.atI ds i = some d) : ∃ v, L2.atI vs i = some v ∧ Rep K G v d := by
  unfold L2.atI at h ⊢
  rw [r.length]
  cases e : ixN ds.length i with
  | none => rw [e] at h; cases h
  | some j =>
    rw [e] at h
    exact r.get h
theorem od_ix : OpD K (rIx K) dIx := by
  intro x y dx dy d G H Q i rx ry h q
  cases rx with
  | @lst a xs ds ha r =>
    cases ry with
    | int k =>
      simp only [dIx] at h
      split at h
      · rename_i d' hd
        cases h
        obtain ⟨v, h1, h2⟩ := r.atI hd
        exact .inl ⟨a, xs, k, v, rfl, rfl, (ls_same i ha).sq, h1, q v G H (Ext.refl i) h2⟩
      · cases h
    | _ => cases h
  | @tup a xs ds ha r =>
    cases ry with
    | int k =>
      simp only [dIx] at h
      split at h
      · rename_i d' hd
        cases h
        obtain ⟨v, h1, h2⟩ := r.atI hd
        exact .inr (.inl ⟨a, xs, k, v, rfl, rfl, sqT_same i ha, h1, q v G H (Ext.refl i) h2⟩)
      · cases h
    | _ => cases h
  | _ => cases h
theorem nx_ix : NoEx dIx := by
  intro x y c h
  unfold dIx at h
  split at h
  · split at h <;> cases h
  · split at h <;> cases h
  · cases h
theorem ud_neg : UnD K (rU fun i => .int (-i)) dNeg := by
  intro x dx d G H Q i rx h q
  cases rx with
  | int a => cases h; exact ⟨a, rfl, q _ G H (Ext.refl i) (.int _)⟩
  | _ => cases h
theorem ux_neg : ∀ x c, dNeg x ≠ .ex c := by
  intro x c h
  unfold dNeg at h
  split at h <;> cases h
end
section
variable {X : Cx} {ec : Nat → Addr} {W : WX} {a b c e : Expr} {fa fb fc f : EF} {pos : Pos}
theorem se_add (ha : PE X a (tD X.K ec W fa)) (hb : PE X b (tD X.K ec W fb)) : PE X (.BinOp a .Add b pos) (tD X.K ec W (eBin dAdd fa fb)) := se_bin op_addP od_add nx_add ha hb
theorem se_sub (ha : PE X a (tD X.K ec W fa)) (hb : PE X b (tD X.K ec W fb)) : PE X (.BinOp a .Sub b pos) (tD X.K ec W (eBin dSub fa fb)) := se_bin op_sub od_sub nx_sub ha hb
theorem se_mul (ha : PE X a (tD X.K ec W fa)) (hb : PE X b (tD X.K ec W fb)) : PE X (.BinOp a .Mult b pos) (tD X.K ec W (eBin dMul fa fb)) := se_bin op_mulP od_mul nx_mul ha hb
theorem se_div (ha : PE X a (tD X.K ec W fa)) (hb : PE X b (tD X.K ec W fb)) : PE X (.BinOp a .FloorDiv b pos) (tD X.K ec W (eBin dDiv fa fb)) := se_bin op_fdivW od_div nx_div ha hb
theorem se_mod (ha : PE X a (tD X.K ec W fa)) (hb : PE X b (tD X.K ec W fb)) : PE X (.BinOp a .Mod b pos) (tD X.K ec W (eBin dMod fa fb)) := se_bin op_mod od_mod nx_mod ha hb
theorem se_pow (ha : PE X a (tD X.K ec W fa)) (hb : PE X b (tD X.K ec W fb)) : PE X (.BinOp a .Pow b pos) (tD X.K ec W (eBin dPow fa fb)) := se_bin op_pow od_pow nx_pow ha hb
theorem se_neg (ha : PE X a (tD X.K ec W fa)) : PE X (.UnaryOp .USub a pos) (tD X.K ec W (eUn dNeg fa)) := se_un un_neg ud_neg ux_neg ha
theorem se_at (ha : PE X a (tD X.K ec W fa)) (hb : PE X b (tD X.K ec W fb)) (hs : PlainIx b := by exact fun _ _ => rfl) : PE X (.Subscript a b pos) (tD X.K ec W (eBin dIx fa fb)) := se_ix ix_seq od_ix nx_ix ha hb hs
theorem se_eq (hu : X.A.units + 64 < cLine) (ha : PE X a (tD X.K ec W fa)) (hb : PE X b (tD X.K ec W fb)) : PE X (.Compare a [.Eq] [b] pos) (tD X.K ec W (eBin dEq fa fb)) := se_cmp (op_eqD hu) od_eq nx_eq ha hb (nomark _)
theorem se_ne (hu : X.A.units + 64 < cLine) (ha : PE X a (tD X.K ec W fa)) (hb : PE X b (tD X.K ec W fb)) : PE X (.Compare a [.NotEq] [b] pos) (tD X.K ec W (eBin dNe fa fb)) := se_cmp (op_neD hu) od_ne nx_ne ha hb (nomark _)
theorem se_lt (ha : PE X a (tD X.K ec W fa)) (hb : PE X b (tD X.K ec W fb)) : PE X (.Compare a [.Lt] [b] pos) (tD X.K ec W (eBin dLt fa fb)) := se_cmp op_lt od_lt nx_lt ha hb (nomark _)
theorem se_le (ha : PE X a (tD X.K ec W fa)) (hb : PE X b (tD X.K ec W fb)) : PE X (.Compare a [.LtE] [b] pos) (tD X.K ec W (eBin dLe fa fb)) := se_cmp op_le od_le nx_le ha hb (nomark _)
theorem se_gt (ha : PE X a (tD X.K ec W fa)) (hb : PE X b (tD X.K ec W fb)) : PE X (.Compare a [.Gt] [b] pos) (tD X.K ec W (eBin dGt fa fb)) := se_cmp op_gt od_gt nx_gt ha hb (nomark _)
theorem se_ge (ha : PE X a (tD X.K ec W fa)) (hb : PE X b (tD X.K ec W fb)) : PE X (.Compare a [.GtE] [b] pos) (tD X.K ec W (eBin dGe fa fb)) := se_cmp op_ge od_ge nx_ge ha hb (nomark _)
theorem se_is (ha : PE X a (tD X.K ec W fa)) (hb : PE X b (tD X.K ec W fb)) : PE X (.Compare a [.Is] [b] pos) (tD X.K ec W (eBin dIs fa fb)) := se_cmp op_isP od_is nx_is ha hb (nomark _)
theorem se_isNot (ha : PE X a (tD X.K ec W fa)) (hb : PE X b (tD X.K ec W fb)) : PE X (.Compare a [.IsNot] [b] pos) (tD X.K ec W (eBin dIsNot fa fb)) := se_cmp op_notP od_isNot nx_isNot ha hb (nomark _)
end

/-! ### tests -/
abbrev TF := List (Option PyData) → R Bool
def toB : R PyData → R Bool
  | .ok (.bool b) => .ok b
  | .ok _ => .no
  | .ex c => .ex c
  | .no => .no
def bVal (f : EF) (env : List (Option PyData)) : R Bool := toB (f env)
def bC (b : Bool) (_ : List (Option PyData)) : R Bool := .ok b
def bNot (f : TF) (env : List (Option PyData)) : R Bool := (f env).bind fun b => .ok (!b)
def bAnd (f g : TF) (env : List (Option PyData)) : R Bool := (f env).bind fun b => (if b then g else bC false) env
def bOr (f g : TF) (env : List (Option PyData)) : R Bool := (f env).bind fun b => (if b then bC true else g) env
def eAnd (f g : EF) (env : List (Option PyData)) : R PyData := (bVal f env).bind fun b => (if b then g else eC (.bool false)) env
def eOr (f g : EF) (env : List (Option PyData)) : R PyData := (bVal f env).bind fun b => (if b then eC (.bool true) else g) env
def eNot (f : EF) (env : List (Option PyData)) : R PyData := (bVal f env).bind fun b => .ok (.bool (!b))
def eIf (t : TF) (f g : EF) (env : List (Option PyData)) : R PyData := (t env).bind fun b => (if b then f else g) env
def eChain (g g' : PyData → PyData → R PyData) (fa fb fc : EF) (env : List (Option PyData)) : R PyData := (fa env).bind fun x => (fb env).bind fun y => (toB (g x y)).bind fun k => if k then (fc env).bind (g' y) else .ok (.bool false)
def PostB (K : PySem.W.Frag) (ec : Nat → Addr) (W : WX) (σ : L2.St) (H : Hp) (Q : Bool → Hp → Prop) : R Bool → Prop
  | .ok b => ∀ H', Same H H' → Q b H'
  | .ex c => ∀ H', Same H H' → W (.ref (ec c)) none σ H'
  | .no => False
def tDT (K : PySem.W.Frag) (ec : Nat → Addr) (W : WX) (f : TF) : TT := fun σ H Q => ∃ G env, Same G H ∧ EnvR K G σ env ∧ PostB K ec W σ H Q (f env)
section
variable {K : PySem.W.Frag} {ec : Nat → Addr} {W : WX} {σ : L2.St} {G H G' H' : Hp}
theorem PostB.mono {Q : Bool → Hp → Prop} {r : R Bool} (e : Same H H') (h : PostB K ec W σ H Q r) : PostB K ec W σ H' Q r := by
  cases r with
  | ok d => exact fun H2 e2 => h H2 (e.trans e2)
  | ex c => exact fun H2 s2 => h H2 (e.trans s2)
  | no => exact h
/-- a test ahead of a datum -/
theorem PostB.bind {Q : VK} {Q' : Bool → Hp → Prop} {r : R Bool} {k : Bool → R PyData} (h : Post K ec W σ G H Q (r.bind k)) (i : Same G H) (hk : ∀ b H', r = .ok b → Same H H' → Post K ec W σ G H' Q (k b) → Q' b H') : PostB K ec W σ H Q' r := by
  cases r with
  | ok d => exact fun H' e => hk d H' rfl e (Post.mono (Ext.heap i e) h)
  | ex c => exact h
  | no => exact h
theorem PostB.bindB {Q Q' : Bool → Hp → Prop} {r : R Bool} {k : Bool → R Bool} (h : PostB K ec W σ H Q (r.bind k)) (hk : ∀ b H', r = .ok b → Same H H' → PostB K ec W σ H' Q (k b) → Q' b H') : PostB K ec W σ H Q' r := by
  cases r with
  | ok d => exact fun H' e => hk d H' rfl e (PostB.mono e h)
  | ex c => exact h
  | no => exact h
/-- a datum that is a truth -/
theorem Post.toB {Q : VK} {Q' : Bool → Hp → Prop} {r : R PyData} (h : PostB K ec W σ H Q' (PL.toB r)) (hq : ∀ b H', Same H H' → Q' b H' → Q (.bl b) H') : Post K ec W σ G H Q r := by
  cases r with
  | ok d =>
    cases d with
    | bool b =>
      intro v G' H' e p
      cases p
      exact hq b H' e.h (h H' e.h)
    | _ => exact h.elim
  | ex c => exact h
  | no => exact h
end
section
variable {X : Cx} {ec : Nat → Addr} {W : WX} {a b c e : Expr} {fa fb fc f : EF} {ft fu : TF} {pos : Pos}
theorem tTest_D {t : TE} {σ : L2.St} {H : Hp} {Q : Bool → Hp → Prop} {K : PySem.W.Frag} (k : ∀ Q : VK, tD K ec W f σ H Q → t σ H Q) : tDT K ec W (bVal f) σ H Q → tTest t σ H Q := by
  rintro ⟨G, env, s, E, p⟩
  refine k _ ⟨G, env, s, E, Post.toB p fun b H' _ q => ⟨b, rfl, q⟩⟩
theorem st_val (h : PE X e (tD X.K ec W f)) (he : ∀ whole, isTrue e X.env whole = (do let v ← whole; standAt e.pos; holding [v] (truthy v)) := by intro _; rfl) : PT X e (tDT X.K ec W (bVal f)) :=
  PT_imp (pt_val h he) fun σ H Q => tTest_D fun _ h => h
theorem st_cmp {op : CmpOp} {r : R2} {g : PyData → PyData → R PyData} (ho : OpR X (compareOp op) r) (hg : OpD X.K r g) (hx : NoEx g) (ha : PE X a (tD X.K ec W fa)) (hb : PE X b (tD X.K ec W fb)) (hm : behindInMarks op b = false) :
    PT X (.Compare a [op] [b] pos) (tDT X.K ec W (bVal (eBin g fa fb))) := PT_imp (pt_cmpR ho ha hb hm) fun σ H Q => tTest_D fun _ => tOp_D hg hx
theorem st_eq (hu : X.A.units + 64 < cLine) (ha : PE X a (tD X.K ec W fa)) (hb : PE X b (tD X.K ec W fb)) : PT X (.Compare a [.Eq] [b] pos) (tDT X.K ec W (bVal (eBin dEq fa fb))) := st_cmp (op_eqD hu) od_eq nx_eq ha hb (nomark _)
theorem st_ne (hu : X.A.units + 64 < cLine) (ha : PE X a (tD X.K ec W fa)) (hb : PE X b (tD X.K ec W fb)) : PT X (.Compare a [.NotEq] [b] pos) (tDT X.K ec W (bVal (eBin dNe fa fb))) := st_cmp (op_neD hu) od_ne nx_ne ha hb (nomark _)
theorem st_lt (ha : PE X a (tD X.K ec W fa)) (hb : PE X b (tD X.K ec W fb)) : PT X (.Compare a [.Lt] [b] pos) (tDT X.K ec W (bVal (eBin dLt fa fb))) := st_cmp op_lt od_lt nx_lt ha hb (nomark _)
theorem st_le (ha : PE X a (tD X.K ec W fa)) (hb : PE X b (tD X.K ec W fb)) : PT X (.Compare a [.LtE] [b] pos) (tDT X.K ec W (bVal (eBin dLe fa fb))) := st_cmp op_le od_le nx_le ha hb (nomark _)
theorem st_gt (ha : PE X a (tD X.K ec W fa)) (hb : PE X b (tD X.K ec W fb)) : PT X (.Compare a [.Gt] [b] pos) (tDT X.K ec W (bVal (eBin dGt fa fb))) := st_cmp op_gt od_gt nx_gt ha hb (nomark _)
theorem st_ge (ha : PE X a (tD X.K ec W fa)) (hb : PE X b (tD X.K ec W fb)) : PT X (.Compare a [.GtE] [b] pos) (tDT X.K ec W (bVal (eBin dGe fa fb))) := st_cmp op_ge od_ge nx_ge ha hb (nomark _)
theorem st_is (ha : PE X a (tD X.K ec W fa)) (hb : PE X b (tD X.K ec W fb)) : PT X (.Compare a [.Is] [b] pos) (tDT X.K ec W (bVal (eBin dIs fa fb))) := st_cmp op_isP od_is nx_is ha hb (nomark _)
theorem st_isNot (ha : PE X a (tD X.K ec W fa)) (hb : PE X b (tD X.K ec W fb)) : PT X (.Compare a [.IsNot] [b] pos) (tDT X.K ec W (bVal (eBin dIsNot fa fb))) := st_cmp op_notP od_isNot nx_isNot ha hb (nomark _)
theorem st_not (ha : PT X a (tDT X.K ec W ft)) : PT X (.UnaryOp .Not a pos) (tDT X.K ec W (bNot ft)) :=
  PT_imp (pt_not ha) fun σ H Q ⟨G, env, s, E, p⟩ => ⟨G, env, s, E, PostB.bindB p fun b H' _ _ q => q H' (Same.refl _)⟩
theorem sw_and1 (ha : PT X a (tDT X.K ec W ft)) : PW X (.BoolOp .And [a] pos) (tDT X.K ec W ft) := pw_and1 ha
theorem sw_or1 (ha : PT X a (tDT X.K ec W ft)) : PW X (.BoolOp .Or [a] pos) (tDT X.K ec W ft) := pw_or1 ha
theorem sw_and {rest : List Expr} (ha : PT X a (tDT X.K ec W ft)) (hb : PW X (.BoolOp .And (b :: rest) pos) (tDT X.K ec W fu)) : PW X (.BoolOp .And (a :: b :: rest) pos) (tDT X.K ec W (bAnd ft fu)) :=
  PW_imp (pw_and ha hb) fun σ H Q ⟨G, env, s, E, p⟩ => ⟨G, env, s, E, PostB.bindB p fun k H' _ sh q => by
    cases k with
    | true => exact iteT ⟨G, env, s.trans sh, E, q⟩
    | false => exact iteF (q H' (Same.refl _))⟩
theorem sw_or {rest : List Expr} (ha : PT X a (tDT X.K ec W ft)) (hb : PW X (.BoolOp .Or (b :: rest) pos) (tDT X.K ec W fu)) : PW X (.BoolOp .Or (a :: b :: rest) pos) (tDT X.K ec W (bOr ft fu)) :=
  PW_imp (pw_or ha hb) fun σ H Q ⟨G, env, s, E, p⟩ => ⟨G, env, s, E, PostB.bindB p fun k H' _ sh q => by
    cases k with
    | true => exact iteT (q H' (Same.refl _))
    | false => exact iteF ⟨G, env, s.trans sh, E, q⟩⟩
theorem se_one {op : BoolOp} (h : PE X a (tD X.K ec W fa)) : PE X (.BoolOp op [a] pos) (tD X.K ec W fa) := pe_one h
theorem se_and {rest : List Expr} (ha : PE X a (tD X.K ec W fa)) (hb : PE X (.BoolOp .And (b :: rest) pos) (tD X.K ec W fb)) : PE X (.BoolOp .And (a :: b :: rest) pos) (tD X.K ec W (eAnd fa fb)) :=
  PE_imp (pe_and ha hb) fun σ H Q ⟨G, env, s, E, p⟩ => ⟨G, env, s, E, Post.toB (PostB.bind (Q' := fun k H' => if k = true then tD X.K ec W fb σ H' Q else Q (.bl false) H') p s fun k H' _ sh q => by
    cases k with
    | true => exact iteT ⟨G, env, s.trans sh, E, q⟩
    | false => exact iteF (q _ G H' (Ext.refl (s.trans sh)) (.bl _))) fun k H' _ q => ⟨k, rfl, q⟩⟩
theorem se_or {rest : List Expr} (ha : PE X a (tD X.K ec W fa)) (hb : PE X (.BoolOp .Or (b :: rest) pos) (tD X.K ec W fb)) : PE X (.BoolOp .Or (a :: b :: rest) pos) (tD X.K ec W (eOr fa fb)) :=
  PE_imp (pe_or ha hb) fun σ H Q ⟨G, env, s, E, p⟩ => ⟨G, env, s, E, Post.toB (PostB.bind (Q' := fun k H' => if k = true then Q (.bl true) H' else tD X.K ec W fb σ H' Q) p s fun k H' _ sh q => by
    cases k with
    | true => exact iteT (q _ G H' (Ext.refl (s.trans sh)) (.bl _))
    | false => exact iteF ⟨G, env, s.trans sh, E, q⟩) fun k H' _ q => ⟨k, rfl, q⟩⟩
theorem se_not (ha : PE X a (tD X.K ec W fa)) : PE X (.UnaryOp .Not a pos) (tD X.K ec W (eNot fa)) :=
  PE_imp (pe_not ha) fun σ H Q ⟨G, env, s, E, p⟩ => ⟨G, env, s, E, Post.toB (PostB.bind (Q' := fun k H' => Q (.bl (!k)) H') p s fun k H' _ sh q => q _ G H' (Ext.refl (s.trans sh)) (.bl _)) fun k H' _ q => ⟨k, rfl, q⟩⟩
theorem se_if (hc : PT X c (tDT X.K ec W ft)) (ha : PE X a (tD X.K ec W fa)) (hb : PE X b (tD X.K ec W fb)) : PE X (.IfExp c a b pos) (tD X.K ec W (eIf ft fa fb)) :=
  PE_imp (pe_ifExp hc ha hb) fun σ H Q ⟨G, env, s, E, p⟩ => ⟨G, env, s, E, PostB.bind p s fun k H' _ sh q => by
    cases k with
    | true => exact iteT ⟨G, env, s.trans sh, E, q⟩
    | false => exact iteF ⟨G, env, s.trans sh, E, q⟩⟩
theorem tChain_D {K : PySem.W.Frag} {r r' : R2} {g g' : PyData → PyData → R PyData} (hg : OpD K r g) (hx : NoEx g) (hg' : OpD K r' g') (hx' : NoEx g') {σ : L2.St} {H : Hp} {Q : VK} :
    tD K ec W (eChain g g' fa fb fc) σ H Q → tChain r r' (tD K ec W fa) (tD K ec W fb) (tD K ec W fc) σ H Q := by
  rintro ⟨G, env, s, E, p⟩
  refine ⟨G, env, s, E, Post.bind p fun x dx G1 H1 _ e1 r1 p1 => ?_⟩
  refine ⟨G1, env, e1.i, E.mono e1.g, Post.bind p1 fun y dy G2 H2 _ e2 r2 p2 => ?_⟩
  cases q : g dx dy with
  | ok d =>
    rw [q] at p2
    refine hg x y dx dy d G2 H2 _ e2.i (r1.mono e2.g) r2 q fun v G3 H3 e3 r3 => ?_
    cases d with
    | bool k =>
      cases r3
      refine ⟨k, rfl, ?_⟩
      cases k with
      | true =>
        refine iteT ⟨G3, env, e3.i, (E.mono e1.g).mono (e2.g.trans e3.g), Post.bind (Post.mono e3 p2) fun z dz G4 H4 _ e4 r4 p4 => ?_⟩
        cases q' : g' dy dz with
        | ok d' => rw [q'] at p4; exact hg' y z dy dz d' G4 H4 Q e4.i (r2.mono (e3.g.trans e4.g)) r4 q' p4
        | ex c => exact absurd q' (hx' dy dz c)
        | no => rw [q'] at p4; exact p4.elim
      | false => exact iteF (Post.mono (r := .ok (.bool false)) e3 p2 _ G3 H3 (Ext.refl e3.i) (.bl _))
    | _ => exact p2.elim
  | ex c => exact absurd q (hx dx dy c)
  | no => rw [q] at p2; exact p2.elim
theorem se_chain {op op' : CmpOp} {r r' : R2} {g g' : PyData → PyData → R PyData} (ho : OpR X (compareOp op) r) (ho' : OpR X (compareOp op') r') (hg : OpD X.K r g) (hx : NoEx g) (hg' : OpD X.K r' g') (hx' : NoEx g')
    (ha : PE X a (tD X.K ec W fa)) (hb : PE X b (tD X.K ec W fb)) (hc : PE X c (tD X.K ec W fc)) (hm : lastMarks [op, op'] [b, c] = false := by with_unfolding_all rfl) :
    PE X (.Compare a [op, op'] [b, c] pos) (tD X.K ec W (eChain g g' fa fb fc)) := PE_imp (pe_chain ho ho' ha hb hc hm) fun _ _ _ => tChain_D hg hx hg' hx'
theorem st_chain {op op' : CmpOp} {r r' : R2} {g g' : PyData → PyData → R PyData} (ho : OpR X (compareOp op) r) (ho' : OpR X (compareOp op') r') (hg : OpD X.K r g) (hx : NoEx g) (hg' : OpD X.K r' g') (hx' : NoEx g')
    (ha : PE X a (tD X.K ec W fa)) (hb : PE X b (tD X.K ec W fb)) (hc : PE X c (tD X.K ec W fc)) (hm : lastMarks [op, op'] [b, c] = false := by with_unfolding_all rfl) :
    PT X (.Compare a [op, op'] [b, c] pos) (tDT X.K ec W (bVal (eChain g g' fa fb fc))) := PT_imp (pt_chain ho ho' ha hb hc hm) fun _ _ _ => tTest_D fun _ => tChain_D hg hx hg' hx'
theorem se_lele (ha : PE X a (tD X.K ec W fa)) (hb : PE X b (tD X.K ec W fb)) (hc : PE X c (tD X.K ec W fc)) (hm : lastMarks [.LtE, .LtE] [b, c] = false := by with_unfolding_all rfl) :
    PE X (.Compare a [.LtE, .LtE] [b, c] pos) (tD X.K ec W (eChain dLe dLe fa fb fc)) := se_chain op_le op_le od_le nx_le od_le nx_le ha hb hc hm
theorem st_lele (ha : PE X a (tD X.K ec W fa)) (hb : PE X b (tD X.K ec W fb)) (hc : PE X c (tD X.K ec W fc)) (hm : lastMarks [.LtE, .LtE] [b, c] = false := by with_unfolding_all rfl) :
    PT X (.Compare a [.LtE, .LtE] [b, c] pos) (tDT X.K ec W (bVal (eChain dLe dLe fa fb fc))) := st_chain op_le op_le od_le nx_le od_le nx_le ha hb hc hm
end

/-! ### argument lists, displays -/
def aAll : List EF → List (Option PyData) → R (List PyData)
  | [], _ => .ok []
  | f :: fs, env => (f env).bind fun d => (aAll fs env).bind fun ds => .ok (d :: ds)
theorem aAll_len : ∀ {fs : List EF} {env : List (Option PyData)} {ds : List PyData}, aAll fs env = .ok ds → ds.length = fs.length
  | [], _, _, h => by cases h; rfl
  | f :: fs, env, ds, h => by
    unfold aAll at h
    cases q : f env with
    | ok d =>
      rw [q] at h
      cases q2 : aAll fs env with
      | ok es => rw [q2] at h; cases h; rw [List.length_cons, List.length_cons, aAll_len q2]
      | ex c => rw [q2] at h; cases h
      | no => rw [q2] at h; cases h
    | ex c => rw [q] at h; cases h
    | no => rw [q] at h; cases h
def PostL (K : PySem.W.Frag) (ec : Nat → Addr) (W : WX) (σ : L2.St) (G H : Hp) (Q : List V → Hp → Prop) : R (List PyData) → Prop
  | .ok ds => ∀ vs G' H', Ext G H G' H' → RepA K G' vs ds → Q vs H'
  | .ex c => ∀ H', Same H H' → W (.ref (ec c)) none σ H'
  | .no => False
def tDA (K : PySem.W.Frag) (ec : Nat → Addr) (W : WX) (fs : List EF) : TA := fun σ H Q => ∃ G env, Same G H ∧ EnvR K G σ env ∧ PostL K ec W σ G H Q (aAll fs env)
def eTup (fs : List EF) (env : List (Option PyData)) : R PyData := (aAll fs env).bind fun ds => .ok (.tuple ds)
def eLst (fs : List EF) (env : List (Option PyData)) : R PyData := (aAll fs env).bind fun ds => .ok (.list ds)
def eCall (g : List PyData → R PyData) (fs : List EF) (env : List (Option PyData)) : R PyData := (aAll fs env).bind g
section
variable {K : PySem.W.Frag} {ec : Nat → Addr} {W : WX} {σ : L2.St} {G H G' H' : Hp}
theorem PostL.mono {Q : List V → Hp → Prop} {r : R (List PyData)} (e : Ext G H G' H') (h : PostL K ec W σ G H Q r) : PostL K ec W σ G' H' Q r := by
  cases r with
  | ok d => exact fun v G2 H2 e2 p => h v G2 H2 (e.trans e2) p
  | ex c => exact fun H2 s2 => h H2 (e.h.trans s2)
  | no => exact h
/-- a list of data ahead of a datum -/
theorem PostL.bind {Q : VK} {Q' : List V → Hp → Prop} {r : R (List PyData)} {k : List PyData → R PyData} (h : Post K ec W σ G H Q (r.bind k)) (hk : ∀ vs ds G' H', r = .ok ds → Ext G H G' H' → RepA K G' vs ds → Post K ec W σ G' H' Q (k ds) → Q' vs H') : PostL K ec W σ G H Q' r := by
  cases r with
  | ok d => exact fun v G' H' e p => hk v d G' H' rfl e p (Post.mono e h)
  | ex c => exact h
  | no => exact h
theorem Post.bindL {Q : VK} {Q' : List V → Hp → Prop} {r : R PyData} {k : PyData → R (List PyData)} (h : PostL K ec W σ G H Q' (r.bind k)) (hk : ∀ v d G' H', r = .ok d → Ext G H G' H' → Rep K G' v d → PostL K ec W σ G' H' Q' (k d) → Q v H') : Post K ec W σ G H Q r := by
  cases r with
  | ok d => exact fun v G' H' e p => hk v d G' H' rfl e p (PostL.mono e h)
  | ex c => exact h
  | no => exact h
theorem PostL.bindL {Q Q' : List V → Hp → Prop} {r : R (List PyData)} {k : List PyData → R (List PyData)} (h : PostL K ec W σ G H Q (r.bind k)) (hk : ∀ vs ds G' H', r = .ok ds → Ext G H G' H' → RepA K G' vs ds → PostL K ec W σ G' H' Q (k ds) → Q' vs H') : PostL K ec W σ G H Q' r := by
  cases r with
  | ok d => exact fun v G' H' e p => hk v d G' H' rfl e p (PostL.mono e h)
  | ex c => exact h
  | no => exact h
end
section
variable {X : Cx} {ec : Nat → Addr} {W : WX} {e : Expr} {es : List Expr} {f : EF} {fs : List EF} {pos : Pos}
theorem sa_nil : PA X [] (tDA X.K ec W []) := PA_imp pa_nil fun σ H Q ⟨G, env, s, E, p⟩ => p [] G H (Ext.refl s) .nil
theorem sa_cons (ha : PE X e (tD X.K ec W f)) (hr : PA X es (tDA X.K ec W fs)) (hs : starEach (e :: es) X.env = (false, eval e X.env) :: starEach es X.env := by rfl) : PA X (e :: es) (tDA X.K ec W (f :: fs)) :=
  PA_imp (pa_cons ha hr hs) fun σ H Q ⟨G, env, s, E, p⟩ => ⟨G, env, s, E, Post.bindL p fun x dx G1 H1 _ e1 r1 p1 =>
    ⟨G1, env, e1.i, E.mono e1.g, PostL.bindL p1 fun vs ds G2 H2 _ e2 r2 p2 => p2 _ G2 H2 (Ext.refl e2.i) (.cons (r1.mono e2.g) r2)⟩⟩
theorem se_tup {k : Nat} (h : PA X es (tDA X.K ec W fs)) (hl : fs.length ≤ 1000 := by exact Nat.le_of_ble_eq_true rfl) : PE X (.Tuple es k pos) (tD X.K ec W (eTup fs)) :=
  PE_imp (pe_tup h) fun σ H Q ⟨G, env, s, E, p⟩ => ⟨G, env, s, E, PostL.bind p fun vs ds G1 H1 q e1 r1 p1 => by
    have hn : vs.length ≤ 1000 := by rw [r1.length, aAll_len q]; exact hl
    exact ⟨Nat.le_of_lt (small1000 hn), fun p n => p1 _ _ _ (Ext.new e1.i n) (ext_tup e1.i n r1)⟩⟩
theorem se_lst (h : PA X es (tDA X.K ec W fs)) (hl : fs.length ≤ 1000 := by exact Nat.le_of_ble_eq_true rfl) : PE X (.List es pos) (tD X.K ec W (eLst fs)) :=
  PE_imp (pe_lst h) fun σ H Q ⟨G, env, s, E, p⟩ => ⟨G, env, s, E, PostL.bind p fun vs ds G1 H1 q e1 r1 p1 => by
    have hn : vs.length ≤ 1000 := by rw [r1.length, aAll_len q]; exact hl
    exact ⟨Nat.le_of_lt (small1000 hn), fun p n => p1 _ _ _ (Ext.new e1.i n) (ext_list e1.i n r1)⟩⟩
/-- a built-in's rule is a function on data -/
def CallD (K : PySem.W.Frag) (r : List V → Hp → VK → Prop) (g : List PyData → R PyData) : Prop :=
  ∀ (vs : List V) (ds : List PyData) (d : PyData) (G H : Hp) (Q : VK), Same G H → RepA K G vs ds → g ds = .ok d → (∀ v G' H', Ext G H G' H' → Rep K G' v d → Q v H') → r vs H Q
def NoExL (g : List PyData → R PyData) : Prop := ∀ x c, g x ≠ .ex c
theorem tCB_D {K : PySem.W.Frag} {r : List V → Hp → VK → Prop} {g : List PyData → R PyData} (hg : CallD K r g) (hx : NoExL g) {σ : L2.St} {H : Hp} {Q : VK} : tD K ec W (eCall g fs) σ H Q → tCB r (tDA K ec W fs) σ H Q := by
  rintro ⟨G, env, s, E, p⟩
  refine ⟨G, env, s, E, PostL.bind p fun vs ds G1 H1 _ e1 r1 p1 => ?_⟩
  cases q : g ds with
  | ok d => rw [q] at p1; exact hg vs ds d G1 H1 Q e1.i r1 q p1
  | ex c => exact absurd q (hx ds c)
  | no => rw [q] at p1; exact p1.elim
variable {x : Str} {p : Pos} {id T : String} {r : List V → Hp → VK → Prop} {g : List PyData → R PyData}
theorem se_callB (hc : CallR X (.builtin id) r) (hd : CallD X.K r g) (hx : NoExL g) (hg : Gl X x) (hm : X.mg x = none) (hv : bootBuiltins x = some (.builtin id)) (ha : PA X (e :: es) (tDA X.K ec W fs)) (hn : x ≠ "__name__" := by decide) (hdb : (x == ("__debug__" : Str)) = false := by decide)
    (he : starEach (e :: es) X.env = (false, eval e X.env) :: starEach es X.env := by rfl) (hpl : (backTo pos (starEach es X.env)).any (·.1) = false := by rfl) : PE X (.Call (.Name x p) (e :: es) [] pos) (tD X.K ec W (eCall g fs)) :=
  PE_imp (pe_callB hc hg hm hv ha hn hdb he hpl) fun _ _ _ => tCB_D hd hx
theorem se_callTy (hc : CallR X (.type T) r) (hd : CallD X.K r g) (hx : NoExL g) (hg : Gl X x) (hm : X.mg x = none) (hv : bootBuiltins x = some (.type T)) (ha : PA X (e :: es) (tDA X.K ec W fs)) (hn : x ≠ "__name__" := by decide) (hdb : (x == ("__debug__" : Str)) = false := by decide)
    (he : starEach (e :: es) X.env = (false, eval e X.env) :: starEach es X.env := by rfl) (hpl : (backTo pos (starEach es X.env)).any (·.1) = false := by rfl) : PE X (.Call (.Name x p) (e :: es) [] pos) (tD X.K ec W (eCall g fs)) :=
  PE_imp (pe_callTy hc hg hm hv ha hn hdb he hpl) fun _ _ _ => tCB_D hd hx
end
end PL
/-! PL, part d: own calls, environments, statements. -/
namespace PL
open PySem PySem.Spec PyProof.Rows L2

/-! ### what a def promises -/
def PostF (K : PySem.W.Frag) (ec : Nat → Addr) (G H : Hp) (Q : VK) (E : XK) : R PyData → Prop
  | .ok d => ∀ v G' H', Ext G H G' H' → Rep K G' v d → Q v H'
  | .ex c => ∀ H', Same H H' → E (.ref (ec c)) none H'
  | .no => False
def spP (K : PySem.W.Frag) (ec : Nat → Addr) (n : Nat) (g : List PyData → R PyData) : Sp := fun vs H Q E => vs.length = n ∧ ∃ G ds, Tbs G ∧ Same G H ∧ RepA K G vs ds ∧ PostF K ec G H Q E (g ds)
/-- a def that may be called by its name -/
structure Cal (P : Program) (w : World) (K : PySem.W.Frag) (mg : Str → Option Value) (base : Heap) (ec : Nat → Addr) (x : Str) (n k : Nat) (g : List PyData → R PyData) : Prop where
  ex : ∃ (f : Addr) (fd : FuncData) (ps : List Str), FnOk P w K mg base (L2N.CX P w) k f fd ps (spP K ec n g) ∧ mg x = some (.ref f) ∧ PySem.W.keepIn K (.ref f) = true ∧ Binds K fd ps []
theorem takes0N {X : Cx} : L2N.Takes X (fun _ _ _ _ => False) := fun _ _ x => by
  obtain ⟨_, _, _, _, _, _, _, _, _, _, _, _, _, _, _, _, z⟩ := x
  exact z.elim
section
variable {X : Cx} {ec : Nat → Addr} {W : WX} {e : Expr} {es : List Expr} {fs : List EF} {pos p : Pos} {x : Str} {n k : Nat} {g : List PyData → R PyData}
theorem se_call (C : Cal X.prog X.w X.K X.mg X.base ec x n k g) (tk : L2N.Takes X W) (hr : Room k X.A) (hg : Gl X x) (ha : PA X (e :: es) (tDA X.K ec W fs)) (hl : fs.length = n := by rfl) (hdb : (x == ("__debug__" : Str)) = false := by decide)
    (he : starEach (e :: es) X.env = (false, eval e X.env) :: starEach es X.env := by rfl) (hpl : (backTo pos (starEach es X.env)).any (·.1) = false := by rfl) : PE X (.Call (.Name x p) (e :: es) [] pos) (tD X.K ec W (eCall g fs)) := by
  obtain ⟨f, fd, ps, F, hm, hk, hb⟩ := C.ex
  refine PE_imp (pe_callS (E := WE W) F hr hg hm hk hb (fun σ => L2N.passAt tk σ) ha hdb he hpl) fun σ H Q ⟨G, env, s, E, p⟩ => ?_
  refine ⟨G, env, s, E, PostL.bind p fun vs ds G1 H1 q e1 r1 p1 => ⟨by rw [r1.length, aAll_len q, hl], G1, ds, E.tb.mono e1.g, e1.i, r1, ?_⟩⟩
  cases q : g ds with
  | ok d => rw [q] at p1; exact p1
  | ex c => rw [q] at p1; exact p1
  | no => rw [q] at p1; exact p1
end

/-! ### environments of a body -/
inductive Sl where
  | no
  | pu (d : PyData)
  | ow (d : PyData)
def Sl.full : Sl → Option PyData
  | .no => none
  | .pu d => some d
  | .ow d => some d
def Sl.pur : Sl → Option PyData
  | .pu d => some d
  | _ => none
abbrev Ev := List Sl
def Own (K : PySem.W.Frag) (G H : Hp) (l : Addr) : PyData → Prop
  | .list ds => ∃ vs, H l = some (.lst vs) ∧ RepA K G vs ds
  | .dict ds => ∃ kvs, H l = some (.dK kvs) ∧ (kvs.map (·.1)).Nodup ∧ RepK K G kvs ds
  | _ => False
theorem Own.there {K : PySem.W.Frag} {G H : Hp} {l : Addr} {d : PyData} (h : Own K G H l d) : ∃ o, H l = some o ∧ ∀ G2 : Hp, Same G G2 → G2 l = some o → Rep K G2 (.ref l) d := by
  cases d with
  | list ds => obtain ⟨vs, h1, h2⟩ := h; exact ⟨_, h1, fun G2 e q => .lst (.of q) (h2.mono e)⟩
  | dict ds => obtain ⟨vs, h1, n, h2⟩ := h; exact ⟨_, h1, fun G2 e q => .dct q n (h2.mono e)⟩
  | _ => exact h.elim
theorem Own.mono {K : PySem.W.Frag} {G H G' H' : Hp} {l : Addr} {d : PyData} (h : Own K G H l d) (g : Same G G') (e : ∀ o, H l = some o → Tame o → H' l = some o) : Own K G' H' l d := by
  cases d with
  | list ds => obtain ⟨vs, h1, h2⟩ := h; exact ⟨vs, e _ h1 (tame_lst _), h2.mono g⟩
  | dict ds => obtain ⟨vs, h1, n, h2⟩ := h; exact ⟨vs, e _ h1 (tame_dK _), n, h2.mono g⟩
  | _ => exact h.elim
theorem Own.tame {K : PySem.W.Frag} {G H : Hp} {l : Addr} {d : PyData} (h : Own K G H l d) : ∃ u, H l = some u ∧ Tame u := by
  cases d with
  | list ds => obtain ⟨vs, h1, h2⟩ := h; exact ⟨_, h1, tame_lst _⟩
  | dict ds => obtain ⟨vs, h1, n, h2⟩ := h; exact ⟨_, h1, tame_dK _⟩
  | _ => exact h.elim
structure StR (K : PySem.W.Frag) (G0 H0 G H : Hp) (σ : L2.St) (env : Ev) : Prop where
  tb : Tbs G0
  x : Ext G0 H0 G H
  len : σ.length = env.length
  pu : ∀ (i : Nat) (d : PyData), env[i]? = some (.pu d) → ∃ v, σ[i]? = some (some v) ∧ Rep K G v d
  ow : ∀ (i : Nat) (d : PyData), env[i]? = some (.ow d) → ∃ l, σ[i]? = some (some (.ref l)) ∧ G l = none ∧ H0 l = none ∧ Own K G H l d
  dj : ∀ (i j : Nat) (d d' : PyData) (l : Addr), i ≠ j → env[i]? = some (.ow d) → env[j]? = some (.ow d') → σ[i]? = some (some (.ref l)) → σ[j]? = some (some (.ref l)) → False
section
variable {K : PySem.W.Frag} {G0 H0 G H G' H' : Hp} {σ : L2.St} {env : Ev}
theorem Ext.clean (e : Ext G H G' H') {l : Addr} {o : HO} (g : G l = none) (h : H l = some o) : G' l = none := by
  cases q : G' l with
  | none => rfl
  | some u =>
    have := e.f l (by rw [q]; simp) g
    rw [h] at this; cases this
theorem StR.grow (S : StR K G0 H0 G H σ env) (e : Ext G H G' H') : StR K G0 H0 G' H' σ env :=
  ⟨S.tb, S.x.trans e, S.len, fun i d q => let ⟨v, h1, h2⟩ := S.pu i d q; ⟨v, h1, h2.mono e.g⟩,
    fun i d q => let ⟨l, h1, h2, h3, h4⟩ := S.ow i d q
      let ⟨o, ho, _⟩ := h4.there
      ⟨l, h1, e.clean h2 ho, h3, h4.mono e.g fun o q t => e.h.ap l o q t.1⟩, S.dj⟩
theorem get_set {α : Type} {l : List α} {i j : Nat} {x y : α} (h : (l.set i x)[j]? = some y) : (j = i ∧ y = x) ∨ (j ≠ i ∧ l[j]? = some y) := by
  by_cases e : i = j
  · subst e
    by_cases hi : i < l.length
    · rw [List.getElem?_set_self hi] at h; cases h; exact .inl ⟨rfl, rfl⟩
    · rw [List.getElem?_eq_none (by simpa using hi)] at h; cases h
  · rw [List.getElem?_set_ne e] at h; exact .inr ⟨fun z => e z.symm, h⟩
theorem set_get {α : Type} {l : List α} {i : Nat} {x y : α} {m : List Sl} {s z : Sl} (hl : l.length = m.length) (h : (m.set i s)[i]? = some z) : (l.set i x)[i]? = some x := by
  have : i < m.length := by
    by_cases hi : i < m.length
    · exact hi
    · rw [List.getElem?_eq_none (by simpa using hi)] at h; cases h
  exact List.getElem?_set_self (by omega)
theorem StR.setP (S : StR K G0 H0 G H σ env) {i : Nat} {v : V} {d : PyData} (r : Rep K G v d) : StR K G0 H0 G H (σ.set i (some v)) (env.set i (.pu d)) := by
  refine ⟨S.tb, S.x, by simpa using S.len, fun j d' q => ?_, fun j d' q => ?_, fun j k d1 d2 l hjk q1 q2 h1 h2 => ?_⟩
  · rcases get_set q with ⟨rfl, e⟩ | ⟨hj, q⟩
    · cases e
      exact ⟨v, set_get (y := some v) S.len q, r⟩
    · rw [List.getElem?_set_ne (Ne.symm hj)]; exact S.pu j d' q
  · rcases get_set q with ⟨rfl, e⟩ | ⟨hj, q⟩
    · cases e
    · rw [List.getElem?_set_ne (Ne.symm hj)]; exact S.ow j d' q
  · rcases get_set q1 with ⟨_, e⟩ | ⟨hj, q1⟩
    · cases e
    · rcases get_set q2 with ⟨_, e⟩ | ⟨hk, q2⟩
      · cases e
      · rw [List.getElem?_set_ne (Ne.symm hj)] at h1
        rw [List.getElem?_set_ne (Ne.symm hk)] at h2
        exact S.dj j k d1 d2 l hjk q1 q2 h1 h2
/-- a new owned thing at slot i -/
theorem StR.setO (S : StR K G0 H0 G H σ env) {i : Nat} {l : Addr} {d : PyData} (hg : G l = none) (h0 : H0 l = none) (o : Own K G H l d) (ap : ∀ (j : Nat) (d' : PyData), j ≠ i → env[j]? = some (.ow d') → σ[j]? = some (some (.ref l)) → False) :
    StR K G0 H0 G H (σ.set i (some (.ref l))) (env.set i (.ow d)) := by
  refine ⟨S.tb, S.x, by simpa using S.len, fun j d' q => ?_, fun j d' q => ?_, fun j k d1 d2 m hjk q1 q2 h1 h2 => ?_⟩
  · rcases get_set q with ⟨rfl, e⟩ | ⟨hj, q⟩
    · cases e
    · rw [List.getElem?_set_ne (Ne.symm hj)]; exact S.pu j d' q
  · rcases get_set q with ⟨rfl, e⟩ | ⟨hj, q⟩
    · cases e
      exact ⟨l, set_get (y := some (V.ref l)) S.len q, hg, h0, o⟩
    · rw [List.getElem?_set_ne (Ne.symm hj)]; exact S.ow j d' q
  · rcases get_set q1 with ⟨ei, e⟩ | ⟨hj, q1'⟩
    · subst ei
      rcases get_set q2 with ⟨ek, _⟩ | ⟨hk, q2⟩
      · exact hjk ek.symm
      · rw [set_get (y := some (V.ref l)) S.len q1] at h1
        cases h1
        rw [List.getElem?_set_ne (Ne.symm hk)] at h2
        exact ap k d2 hk q2 h2
    · rw [List.getElem?_set_ne (Ne.symm hj)] at h1
      rcases get_set q2 with ⟨ek, _⟩ | ⟨hk, q2'⟩
      · subst ek
        rw [set_get (y := some (V.ref l)) S.len q2] at h2
        cases h2
        exact ap j d1 hj q1' h1
      · rw [List.getElem?_set_ne (Ne.symm hk)] at h2
        exact S.dj j k d1 d2 m hjk q1' q2' h1 h2
/-- the thing that slot i owns is changed -/
theorem StR.mut (S : StR K G0 H0 G H σ env) {i : Nat} {l : Addr} {d d' : PyData} {o : HO} (q : env[i]? = some (.ow d)) (hs : σ[i]? = some (some (.ref l))) (hn : Own K G (upd H l o) l d') : StR K G0 H0 G (upd H l o) σ (env.set i (.ow d')) := by
  obtain ⟨l', h1, h2, h3, h4⟩ := S.ow i d q
  rw [hs] at h1
  cases h1
  have neG : ∀ b u, G b = some u → b ≠ l := fun b u e z => by rw [z, h2] at e; cases e
  obtain ⟨u0, hu0, ht0⟩ := h4.tame
  refine ⟨S.tb, ⟨S.x.g, same_put S.x.h h3 hu0 ht0, same_put S.x.i h2 hu0 ht0, S.x.f⟩, by simpa using S.len, fun j d1 p => ?_, fun j d1 p => ?_, fun j k d1 d2 m hjk q1 q2 e1 e2 => ?_⟩
  · rcases get_set p with ⟨rfl, e⟩ | ⟨hj, p⟩
    · cases e
    · exact S.pu j d1 p
  · rcases get_set p with ⟨rfl, e⟩ | ⟨hj, p⟩
    · cases e
      exact ⟨l, hs, h2, h3, hn⟩
    · obtain ⟨m, a1, a2, a3, a4⟩ := S.ow j d1 p
      have hm : m ≠ l := fun z => by
        subst z
        exact S.dj j i d1 d m hj p q a1 hs
      exact ⟨m, a1, a2, a3, a4.mono (Same.refl _) fun o' e _ => by rw [upd_ne hm]; exact e⟩
  · have f : ∀ {j : Nat} {d1 : PyData}, (env.set i (Sl.ow d'))[j]? = some (Sl.ow d1) → ∃ d2, env[j]? = some (Sl.ow d2) := fun {j d1} p => by
      rcases get_set p with ⟨rfl, _⟩ | ⟨_, p⟩
      · exact ⟨d, q⟩
      · exact ⟨d1, p⟩
    obtain ⟨_, q1⟩ := f q1
    obtain ⟨_, q2⟩ := f q2
    exact S.dj j k _ _ m hjk q1 q2 e1 e2
/-- what slot i owns is given up: from now on it is never changed -/
def frz (i : Nat) (env : Ev) : Ev := match env[i]? with
  | some (.ow d) => env.set i (.pu d)
  | _ => env
theorem StR.frz (S : StR K G0 H0 G H σ env) (i : Nat) : ∃ G', Same G G' ∧ StR K G0 H0 G' H σ (PL.frz i env) := by
  unfold PL.frz
  split
  · rename_i d q
    obtain ⟨l, h1, h2, h3, h4⟩ := S.ow i d q
    obtain ⟨o, ho, hr⟩ := h4.there
    have g : Same G (upd G l o) := same_new h2
    refine ⟨upd G l o, g, S.tb, ⟨S.x.g.trans g, S.x.h, same_in S.x.i ho (by obtain ⟨u0, hu0, ht0⟩ := h4.tame; rw [ho] at hu0; cases hu0; exact ht0), fun b e1 e2 => ?_⟩, by simpa using S.len, fun j d1 p => ?_, fun j d1 p => ?_, fun j k d1 d2 m hjk q1 q2 e1 e2 => ?_⟩
    · by_cases hb : b = l
      · subst hb; exact h3
      · rw [upd_ne hb] at e1; exact S.x.f b e1 e2
    · rcases get_set p with ⟨rfl, e⟩ | ⟨hj, p⟩
      · cases e
        exact ⟨_, h1, hr _ g upd_same⟩
      · obtain ⟨v, a1, a2⟩ := S.pu j d1 p
        exact ⟨v, a1, a2.mono g⟩
    · rcases get_set p with ⟨rfl, e⟩ | ⟨hj, p⟩
      · cases e
      · obtain ⟨m, a1, a2, a3, a4⟩ := S.ow j d1 p
        have hm : m ≠ l := fun z => by
          subst z
          exact S.dj j i d1 d m hj p q a1 h1
        exact ⟨m, a1, by rw [upd_ne hm]; exact a2, a3, a4.mono g fun o' e _ => e⟩
    · have f : ∀ {j : Nat} {d1 : PyData}, (env.set i (Sl.pu d))[j]? = some (Sl.ow d1) → env[j]? = some (Sl.ow d1) := fun {j d1} p => by
        rcases get_set p with ⟨_, e⟩ | ⟨_, p⟩
        · cases e
        · exact p
      exact S.dj j k d1 d2 m hjk (f q1) (f q2) e1 e2
  · exact ⟨G, Same.refl _, S⟩
/-! the views -/
theorem StR.envP (S : StR K G0 H0 G H σ env) : EnvR K G σ (env.map Sl.pur) := ⟨S.tb.mono S.x.g, by rw [List.length_map]; exact Nat.le_of_eq S.len.symm, fun i d q => by
  rw [List.getElem?_map] at q
  cases e : env[i]? with
  | none => rw [e] at q; cases q
  | some s =>
    rw [e] at q
    cases s with
    | pu d' => cases q; exact S.pu i _ e
    | _ => cases q⟩
open Classical in
/-- the view with all that is owned -/
noncomputable def viewF (G H : Hp) (σ : L2.St) (env : Ev) : Hp := fun b => if ∃ (i : Nat) (d : PyData), env[i]? = some (.ow d) ∧ σ[i]? = some (some (.ref b)) then H b else G b
theorem StR.viewG (S : StR K G0 H0 G H σ env) : Same G (viewF G H σ env) := .all fun b o e => by
  unfold viewF
  split
  · rename_i h
    obtain ⟨i, d, q1, q2⟩ := h
    obtain ⟨l, h1, h2, _⟩ := S.ow i d q1
    rw [q2] at h1
    cases h1
    rw [h2] at e
    cases e
  · exact e
theorem StR.viewT (S : StR K G0 H0 G H σ env) {b : Addr} {u : HO} (e : viewF G H σ env b = some u) (n : ¬ Tame u) : G b = some u := by
  unfold viewF at e
  split at e
  · rename_i h
    obtain ⟨i, d, q1, q2⟩ := h
    obtain ⟨l, h1, _, _, h4⟩ := S.ow i d q1
    rw [q2] at h1
    cases h1
    obtain ⟨u0, hu0, ht0⟩ := h4.tame
    rw [e] at hu0
    cases hu0
    exact absurd ht0 n
  · exact e
theorem StR.viewH (S : StR K G0 H0 G H σ env) : Same (viewF G H σ env) H := by
  refine ⟨fun b o e k => ?_, fun b ps e => S.x.i.tb b ps (S.viewT e fun t => t.1 _ rfl), fun P ⟨ps, h1, h2, h3⟩ => S.x.i.tx P ⟨ps, S.viewT h1 fun t => t.1 _ rfl, h2, fun pos cv hc => ?_⟩⟩
  · unfold viewF at e
    split at e
    · exact e
    · exact S.x.i.ap b o e k
  · obtain ⟨c, e1, e2⟩ := h3 pos cv hc
    exact ⟨c, e1, S.viewT e2 fun t => t.2 _ _ rfl⟩
theorem StR.envF (S : StR K G0 H0 G H σ env) : EnvR K (viewF G H σ env) σ (env.map Sl.full) := ⟨(S.tb.mono S.x.g).mono S.viewG, by rw [List.length_map]; exact Nat.le_of_eq S.len.symm, fun i d q => by
  rw [List.getElem?_map] at q
  cases e : env[i]? with
  | none => rw [e] at q; cases q
  | some s =>
    rw [e] at q
    cases s with
    | no => cases q
    | pu d' =>
      cases q
      obtain ⟨v, h1, h2⟩ := S.pu i _ e
      exact ⟨v, h1, h2.mono S.viewG⟩
    | ow d' =>
      cases q
      obtain ⟨l, h1, h2, h3, h4⟩ := S.ow i _ e
      obtain ⟨o, ho, hr⟩ := h4.there
      refine ⟨_, h1, hr _ S.viewG ?_⟩
      unfold viewF
      rw [if_pos ⟨i, _, e, h1⟩]
      exact ho⟩
/-- leaving the body with all that is owned -/
theorem StR.out (S : StR K G0 H0 G H σ env) (e : Ext (viewF G H σ env) H G' H') : Ext G0 H0 G' H' := by
  refine ⟨(S.x.g.trans S.viewG).trans e.g, S.x.h.trans e.h, e.i, fun b h1 h2 => ?_⟩
  cases q : viewF G H σ env b with
  | none => exact S.x.h.free (e.f b h1 q)
  | some o =>
    unfold viewF at q
    split at q
    · rename_i hx
      obtain ⟨i, d, a, c⟩ := hx
      obtain ⟨l, h1', _, h3, _⟩ := S.ow i d a
      rw [c] at h1'
      cases h1'
      exact h3
    · exact S.x.f b (by rw [q]; simp) h2
end

/-! ### expressions within a body: P (what is owned is hidden), A (all is seen, the answer is no object) -/
def atomic : PyData → Bool
  | .none => true
  | .bool _ => true
  | .int _ => true
  | .str _ => true
  | _ => false
theorem atomic_rep {K : PySem.W.Frag} {G G' : Hp} {v : V} {d : PyData} (h : Rep K G v d) (a : atomic d = true) : Rep K G' v d := by
  cases h with
  | non => exact .non
  | bl b => exact .bl b
  | int i => exact .int i
  | str x => exact .str x
  | _ => cases a
inductive Md where
  | P
  | A
def evM : Md → EF → Ev → R PyData
  | .P, f, env => f (env.map Sl.pur)
  | .A, f, env => (f (env.map Sl.full)).bind fun d => if atomic d = true then .ok d else .no
def PostE (K : PySem.W.Frag) (ec : Nat → Addr) (W : WX) (G0 H0 G : Hp) (σ : L2.St) (env : Ev) (Q : VK) : R PyData → Prop
  | .ok d => ∀ v G' H', Same G G' → StR K G0 H0 G' H' σ env → Rep K G' v d → Q v H'
  | .ex c => ∀ H', Same H0 H' → W (.ref (ec c)) none σ H'
  | .no => False
section
variable {K : PySem.W.Frag} {ec : Nat → Addr} {W : WX} {G0 H0 G H : Hp} {σ : L2.St} {env : Ev} {Q : VK}
theorem tD_M {m : Md} {f : EF} (S : StR K G0 H0 G H σ env) (h : PostE K ec W G0 H0 G σ env Q (evM m f env)) : tD K ec W f σ H Q := by
  cases m with
  | P =>
    refine ⟨G, _, S.x.i, S.envP, ?_⟩
    have h : PostE K ec W G0 H0 G σ env Q (f (env.map Sl.pur)) := h
    cases q : f (env.map Sl.pur) with
    | ok d => rw [q] at h; exact fun v G' H' e r => h v G' H' e.g (S.grow e) r
    | ex c => rw [q] at h; exact fun H' s => h H' (S.x.h.trans s)
    | no => rw [q] at h; exact h
  | A =>
    refine ⟨_, _, S.viewH, S.envF, ?_⟩
    have h : PostE K ec W G0 H0 G σ env Q ((f (env.map Sl.full)).bind fun d => if atomic d = true then .ok d else .no) := h
    cases q : f (env.map Sl.full) with
    | ok d =>
      rw [q] at h
      rw [R.bind_ok] at h
      split at h
      · rename_i ha
        exact fun v G' H' e r => h v G H' (Same.refl _) (S.grow (Ext.heap S.x.i e.h)) (atomic_rep r ha)
      · exact h.elim
    | ex c => rw [q] at h; exact fun H' s => h H' (S.x.h.trans s)
    | no => rw [q] at h; exact h
end

/-! ### statements -/
inductive Out where
  | nx (e : Ev)
  | rt (d : PyData)
  | bk (e : Ev)
  | ct (e : Ev)
  | ex (c : Nat)
  | no
abbrev SF := Ev → Out
def R.out (r : R PyData) (k : PyData → Out) : Out := match r with
  | .ok d => k d
  | .ex c => .ex c
  | .no => .no
def R.outB (r : R Bool) (k : Bool → Out) : Out := match r with
  | .ok d => k d
  | .ex c => .ex c
  | .no => .no
def R.outL (r : R (List PyData)) (k : List PyData → Out) : Out := match r with
  | .ok d => k d
  | .ex c => .ex c
  | .no => .no
@[simp] theorem R.out_ok (d : PyData) (k : PyData → Out) : (R.ok d).out k = k d := rfl
@[simp] theorem R.outB_ok (d : Bool) (k : Bool → Out) : (R.ok d).outB k = k d := rfl
@[simp] theorem R.outL_ok (d : List PyData) (k : List PyData → Out) : (R.ok d).outL k = k d := rfl
@[simp] theorem R.out_ex (c : Nat) (k : PyData → Out) : (R.ex c : R PyData).out k = .ex c := rfl
@[simp] theorem R.outB_ex (c : Nat) (k : Bool → Out) : (R.ex c : R Bool).outB k = .ex c := rfl
@[simp] theorem R.outL_ex (c : Nat) (k : List PyData → Out) : (R.ex c : R (List PyData)).outL k = .ex c := rfl
def PostS (K : PySem.W.Frag) (ec : Nat → Addr) (W : WX) (G0 H0 G : Hp) (D : Ends) : Out → Prop
  | .nx e => ∀ σ' G' H', Same G G' → StR K G0 H0 G' H' σ' e → D.nx σ' H'
  | .rt d => ∀ v G' H', Ext G0 H0 G' H' → Rep K G' v d → D.rt v H'
  | .bk e => ∀ σ' G' H', Same G G' → StR K G0 H0 G' H' σ' e → D.bk σ' H'
  | .ct e => ∀ σ' G' H', Same G G' → StR K G0 H0 G' H' σ' e → D.ct σ' H'
  | .ex c => ∀ σ' H', Same H0 H' → W (.ref (ec c)) none σ' H'
  | .no => False
def tDS (K : PySem.W.Frag) (ec : Nat → Addr) (W : WX) (G0 H0 : Hp) (f : SF) : TS := fun D σ H => ∃ G env, StR K G0 H0 G H σ env ∧ PostS K ec W G0 H0 G D (f env)
def sNil (env : Ev) : Out := .nx env
def Out.bind : Out → SF → Out
  | .nx e, k => k e
  | .rt d, _ => .rt d
  | .bk e, _ => .bk e
  | .ct e, _ => .ct e
  | .ex c, _ => .ex c
  | .no, _ => .no
@[simp] theorem Out.bind_nx (e : Ev) (k : SF) : (Out.nx e).bind k = k e := rfl
@[simp] theorem Out.bind_rt (d : PyData) (k : SF) : (Out.rt d).bind k = .rt d := rfl
@[simp] theorem Out.bind_ex (c : Nat) (k : SF) : (Out.ex c).bind k = .ex c := rfl
@[simp] theorem Out.bind_ct (e : Ev) (k : SF) : (Out.ct e).bind k = .ct e := rfl
@[simp] theorem Out.bind_bk (e : Ev) (k : SF) : (Out.bk e).bind k = .bk e := rfl
/-- behind a turn of a loop -/
def Out.loop : Out → SF → Out
  | .nx e, k => k e
  | .ct e, k => k e
  | .bk e, _ => .nx e
  | .rt d, _ => .rt d
  | .ex c, _ => .ex c
  | .no, _ => .no
@[simp] theorem Out.loop_nx (e : Ev) (k : SF) : (Out.nx e).loop k = k e := rfl
@[simp] theorem Out.loop_ct (e : Ev) (k : SF) : (Out.ct e).loop k = k e := rfl
@[simp] theorem Out.loop_bk (e : Ev) (k : SF) : (Out.bk e).loop k = .nx e := rfl
@[simp] theorem Out.loop_rt (d : PyData) (k : SF) : (Out.rt d).loop k = .rt d := rfl
@[simp] theorem Out.loop_ex (c : Nat) (k : SF) : (Out.ex c).loop k = .ex c := rfl
def sSeq (f g : SF) (env : Ev) : Out := (f env).bind g
def sRet (f : EF) (env : Ev) : Out := (f (env.map Sl.full)).out fun d => .rt d
def sRetN (_ : Ev) : Out := .rt .none
def sAsg (m : Md) (i : Nat) (f : EF) (env : Ev) : Out := (evM m f env).out fun d => .nx (env.set i (.pu d))
def sIf (t : TF) (f g : SF) (env : Ev) : Out := (t (env.map Sl.full)).outB fun b => (if b then f else g) env
def sExpr (f : EF) (env : Ev) : Out := (f (env.map Sl.full)).out fun _ => .nx env
def sBrk (env : Ev) : Out := .bk env
def sCt (env : Ev) : Out := .ct env
section
variable {K : PySem.W.Frag} {ec : Nat → Addr} {W : WX} {G0 H0 G G' H : Hp} {D : Ends} {σ : L2.St} {env : Ev}
theorem PostS.mono {o : Out} (g : Same G G') (h : PostS K ec W G0 H0 G D o) : PostS K ec W G0 H0 G' D o := by
  cases o with
  | nx e => exact fun σ' G2 H' e2 => h σ' G2 H' (g.trans e2)
  | bk e => exact fun σ' G2 H' e2 => h σ' G2 H' (g.trans e2)
  | ct e => exact fun σ' G2 H' e2 => h σ' G2 H' (g.trans e2)
  | rt d => exact h
  | ex c => exact h
  | no => exact h
theorem PostE.out {r : R PyData} {k : PyData → Out} {Q : VK} (h : PostS K ec W G0 H0 G D (r.out k)) (hk : ∀ v d G' H', r = .ok d → Same G G' → StR K G0 H0 G' H' σ env → Rep K G' v d → PostS K ec W G0 H0 G' D (k d) → Q v H') : PostE K ec W G0 H0 G σ env Q r := by
  cases r with
  | ok d => exact fun v G' H' g S r => hk v d G' H' rfl g S r (PostS.mono g h)
  | ex c => exact fun H' s => h σ H' s
  | no => exact h
/-- an expression of which all is seen, its value is not kept -/
theorem tD_F {f : EF} {k : PyData → Out} {Q : VK} (S : StR K G0 H0 G H σ env) (h : PostS K ec W G0 H0 G D ((f (env.map Sl.full)).out k)) (hk : ∀ v d G' H', Ext (viewF G H σ env) H G' H' → Rep K G' v d → PostS K ec W G0 H0 G D (k d) → Q v H') : tD K ec W f σ H Q := by
  refine ⟨_, _, S.viewH, S.envF, ?_⟩
  cases q : f (env.map Sl.full) with
  | ok d => rw [q] at h; exact fun v G' H' e r => hk v d G' H' e r h
  | ex c => rw [q] at h; exact fun H' s => h σ H' (S.x.h.trans s)
  | no => rw [q] at h; exact h
theorem tDT_F {f : TF} {k : Bool → Out} {Q : Bool → Hp → Prop} (S : StR K G0 H0 G H σ env) (h : PostS K ec W G0 H0 G D ((f (env.map Sl.full)).outB k)) (hk : ∀ b H', Same H H' → StR K G0 H0 G H' σ env → PostS K ec W G0 H0 G D (k b) → Q b H') : tDT K ec W f σ H Q := by
  refine ⟨_, _, S.viewH, S.envF, ?_⟩
  cases q : f (env.map Sl.full) with
  | ok d => rw [q] at h; exact fun H' e => hk d H' e (S.grow (Ext.heap S.x.i e)) h
  | ex c => rw [q] at h; exact fun H' s => h σ H' (S.x.h.trans s)
  | no => rw [q] at h; exact h
end
section
variable {X : Cx} {ec : Nat → Addr} {W : WX} {G0 H0 : Hp} {e c : Expr} {st : Stmt} {rest body els : List Stmt} {f g : SF} {fe : EF} {ft : TF} {pos : Pos}
theorem ss_nil : PSs X [] (tDS X.K ec W G0 H0 sNil) := PSs_imp pss_nil fun D σ H ⟨G, env, S, p⟩ => p σ G H (Same.refl _) S
theorem ss_cons (h1 : PS X st (tDS X.K ec W G0 H0 f)) (h2 : PSs X rest (tDS X.K ec W G0 H0 g)) : PSs X (st :: rest) (tDS X.K ec W G0 H0 (sSeq f g)) := by
  refine PSs_imp (pss_cons h1 h2) fun D σ H ⟨G, env, S, p⟩ => ⟨G, env, S, ?_⟩
  unfold sSeq at p
  cases q : f env with
  | nx e => rw [q] at p; exact fun σ' G' H' s' S' => ⟨G', e, S', PostS.mono s' p⟩
  | rt d => rw [q] at p; exact p
  | bk e => rw [q] at p; exact p
  | ct e => rw [q] at p; exact p
  | ex c => rw [q] at p; exact p
  | no => rw [q] at p; exact p
theorem ss_one (h1 : PS X st (tDS X.K ec W G0 H0 f)) : PSs X [st] (tDS X.K ec W G0 H0 f) := pss_one h1
/-- what slot i owns is given up ahead of the rest -/
def sFrz (i : Nat) (f : SF) (env : Ev) : Out := f (frz i env)
theorem ss_frz (i : Nat) (h : PSs X rest (tDS X.K ec W G0 H0 f)) : PSs X rest (tDS X.K ec W G0 H0 (sFrz i f)) :=
  PSs_imp h fun D σ H ⟨G, env, S, p⟩ => let ⟨G', g, S'⟩ := S.frz i; ⟨G', _, S', PostS.mono g p⟩
theorem ss_pass : PS X (.Pass pos) (tDS X.K ec W G0 H0 sNil) := PS_imp ps_pass fun D σ H ⟨G, env, S, p⟩ => p σ G H (Same.refl _) S
theorem ss_brk : PS X (.Break pos) (tDS X.K ec W G0 H0 sBrk) := PS_imp ps_break fun D σ H ⟨G, env, S, p⟩ => p σ G H (Same.refl _) S
theorem ss_ct : PS X (.Continue pos) (tDS X.K ec W G0 H0 sCt) := PS_imp ps_continue fun D σ H ⟨G, env, S, p⟩ => p σ G H (Same.refl _) S
theorem ss_ret (he : PE X e (tD X.K ec W fe)) : PS X (.Return (some e) pos) (tDS X.K ec W G0 H0 (sRet fe)) :=
  PS_imp (ps_ret he) fun D σ H ⟨G, env, S, p⟩ => tD_F S p fun v d G' H' e r p' => p' v G' H' (S.out e) r
theorem ss_retN : PS X (.Return none pos) (tDS X.K ec W G0 H0 sRetN) :=
  PS_imp ps_retN fun D σ H ⟨G, env, S, p⟩ => p _ G H S.x .non
theorem ss_expr (he : PE X e (tD X.K ec W fe)) (hs : swapsWith e none pos.line X.env = pure false := by rfl) : PS X (.Expr e pos) (tDS X.K ec W G0 H0 (sExpr fe)) :=
  PS_imp (ps_expr he hs) fun D σ H ⟨G, env, S, p⟩ => tD_F S p fun v d G' H' e r p' => p' σ G H' (Same.refl _) (S.grow (Ext.heap S.x.i e.h))
theorem ss_if (hc : PT X c (tDT X.K ec W ft)) (ha : PSs X body (tDS X.K ec W G0 H0 f)) (hb : PSs X els (tDS X.K ec W G0 H0 g)) : PS X (.If c body els pos) (tDS X.K ec W G0 H0 (sIf ft f g)) :=
  PS_imp (ps_if hc ha hb) fun D σ H ⟨G, env, S, p⟩ => tDT_F S p fun b H' _ S' p' => by
    cases b with
    | true => exact iteT ⟨G, env, S', p'⟩
    | false => exact iteF ⟨G, env, S', p'⟩
theorem ss_set (m : Md) {i : Nat} {x : Str} {pos' : Pos} (hN : X.N.Nodup) (he : PE X e (tD X.K ec W fe)) (hi : X.N[i]? = some x := by rfl) (hx : Loc X.env.scope x := by first | exact Or.inl rfl | exact Or.inr rfl) (hs : swapsWith e (some (.Name x pos')) pos.line X.env = pure false := by rfl)
    (hf : X.fn x = true ∨ X.env.scope.names.lookup x = some .local := by first | exact .inl rfl | exact .inr rfl | assumption) : PS X (.Assign [.Name x pos'] e pos) (tDS X.K ec W G0 H0 (sAsg m i fe)) :=
  PS_imp (ps_set (i := i) hN hi hx he hs hf) fun D σ H ⟨G, env, S, p⟩ => tD_M (m := m) S (PostE.out p fun v d G' H' _ g S' r p' => p' _ G' H' (Same.refl _) (S'.setP r))
end
end PL
/-! PL, part e: walks, loops, comprehensions, what is new, the body of a def. -/
namespace PL
open PySem PySem.Spec PyProof.Rows L2

/-! ### walks -/
/-- while the view G stands, J gives the data ds one after the other -/
structure WalkD (K : PySem.W.Frag) (G : Hp) (J : It) (ds : List PyData) : Prop where
  go : ∀ i H, i < ds.length → Same G H → J.go i H
  stop : ∀ H, Same G H → J.stop ds.length H
  yld : ∀ i Gc H x H' d, ds[i]? = some d → Same G Gc → Same Gc H → J.yld i H x H' → ∃ Gc', Ext Gc H Gc' H' ∧ Rep K Gc' x d
def enumF : Nat → List PyData → List PyData
  | _, [] => []
  | n, d :: ds => .tuple [.int n, d] :: enumF (n + 1) ds
theorem enumF_get : ∀ (ds : List PyData) (n i : Nat), (enumF n ds)[i]? = ds[i]?.map fun d => .tuple [.int ((n + i : Nat) : Int), d]
  | [], _, _ => by simp [enumF]
  | d :: ds, n, 0 => by simp [enumF]
  | d :: ds, n, i + 1 => by
    unfold enumF
    rw [List.getElem?_cons_succ, List.getElem?_cons_succ, enumF_get ds (n + 1) i, show n + 1 + i = n + (i + 1) by omega]
theorem enumF_len : ∀ (ds : List PyData) (n : Nat), (enumF n ds).length = ds.length
  | [], _ => rfl
  | d :: ds, n => by unfold enumF; rw [List.length_cons, List.length_cons, enumF_len ds]
def rngF (lo : Int) (n : Nat) : List PyData := (List.range n).map fun (i : Nat) => .int (lo + (i : Int))
def rngC (lo c : Int) (n : Nat) : List PyData := (List.range n).map fun (i : Nat) => .int (lo + (i : Int) * c)
def zipF (xs ys : List PyData) : List PyData := List.zipWith (fun a b => .tuple [a, b]) xs ys
def signsF (z : Str) : List PyData := z.cps.toList.map fun c => .str ⟨#[c]⟩
section
variable {K : PySem.W.Frag} {G : Hp} {a b : Addr} {xs ys : List V} {ds es : List PyData}
theorem wd_list (h : LsL K G a xs) (r : RepA K G xs ds) : WalkD K G (Itl K a) ds := by
  have hl := r.length
  refine ⟨fun i H hi s => walk_list.goes i H (by omega) ((ls_same s h).sq), fun H s => ?_, fun i Gc H x H' d q sG sH y => ?_⟩
  · have := (walk_list (K := K) (a := a) (xs := xs)).stops H ((ls_same s h).sq)
    rwa [hl] at this
  · have hi : i < ds.length := (List.getElem?_eq_some_iff.mp q).1
    obtain ⟨e, hx⟩ := walk_list.yields i H x H' (by omega) ((ls_same (sG.trans sH) h).sq) y
    obtain ⟨v, hv, rv⟩ := r.get q
    rw [hx] at hv
    cases hv
    subst e
    exact ⟨Gc, Ext.refl sH, rv.mono sG⟩
theorem wd_tup (h : SqT K G a xs) (r : RepA K G xs ds) : WalkD K G (Itt K a) ds := by
  have hl := r.length
  refine ⟨fun i H hi s => walk_tup.goes i H (by omega) (sqT_same s h), fun H s => ?_, fun i Gc H x H' d q sG sH y => ?_⟩
  · have := (walk_tup (K := K) (a := a) (xs := xs)).stops H (sqT_same s h)
    rwa [hl] at this
  · have hi : i < ds.length := (List.getElem?_eq_some_iff.mp q).1
    obtain ⟨e, hx⟩ := walk_tup.yields i H x H' (by omega) (sqT_same (sG.trans sH) h) y
    obtain ⟨v, hv, rv⟩ := r.get q
    rw [hx] at hv
    cases hv
    subst e
    exact ⟨Gc, Ext.refl sH, rv.mono sG⟩
theorem wd_range {lo : Int} {n : Nat} : WalkD K G (Itr lo n) (rngF lo n) := by
  have hl : (rngF lo n).length = n := by simp [rngF]
  refine ⟨fun i H hi s => walk_range.goes i H (by omega) trivial, fun H s => ?_, fun i Gc H x H' d q sG sH y => ?_⟩
  · rw [hl]; exact walk_range.stops H trivial
  · have hi : i < (rngF lo n).length := (List.getElem?_eq_some_iff.mp q).1
    obtain ⟨e, hx⟩ := walk_range.yields i H x H' (by omega) trivial y
    subst e hx
    have : d = .int (lo + i) := by
      rw [hl] at hi
      simp [rngF, hi] at q
      exact q.symm
    subst this
    exact ⟨Gc, Ext.refl sH, .int _⟩
theorem wd_rangeC {lo c : Int} {n : Nat} : WalkD K G (Itc lo c n) (rngC lo c n) := by
  have hl : (rngC lo c n).length = n := by simp [rngC]
  refine ⟨fun i H hi s => walk_rangeC.goes i H (by omega) trivial, fun H s => ?_, fun i Gc H x H' d q sG sH y => ?_⟩
  · rw [hl]; exact walk_rangeC.stops H trivial
  · have hi : i < (rngC lo c n).length := (List.getElem?_eq_some_iff.mp q).1
    obtain ⟨e, hx⟩ := walk_rangeC.yields i H x H' (by omega) trivial y
    subst e hx
    have : d = .int (lo + (i : Nat) * c) := by
      rw [hl] at hi
      simp [rngC, hi] at q
      exact q.symm
    subst this
    exact ⟨Gc, Ext.refl sH, .int _⟩
theorem wd_str {z : Str} : WalkD K G (Its z) (signsF z) := by
  have hl : (signsF z).length = z.cps.size := by simp [signsF]
  refine ⟨fun i H hi s => walk_str.goes i H (by omega) trivial, fun H s => ?_, fun i Gc H x H' d q sG sH y => ?_⟩
  · rw [hl]; exact walk_str.stops H trivial
  · have hi : i < (signsF z).length := (List.getElem?_eq_some_iff.mp q).1
    obtain ⟨e, c, hc, hx⟩ := walk_str.yields i H x H' (by omega) trivial y
    subst e hx
    have : d = .str ⟨#[c]⟩ := by
      simp [signsF, hc] at q
      exact q.symm
    subst this
    exact ⟨Gc, Ext.refl sH, .str _⟩
theorem pair_rep {Gc H H' : Hp} {x y v : V} {T : Addr} {d e : PyData} (s : Same Gc H) (n : H T = none) (rx : Rep K Gc x d) (ry : Rep K Gc y e) (hv : v = .ref T) (hH : H' = upd H T (.tup [x, y])) : ∃ Gc', Ext Gc H Gc' H' ∧ Rep K Gc' v (.tuple [d, e]) := by
  subst hv hH
  exact ⟨_, Ext.new s n, ext_tup s n (.cons rx (.cons ry .nil))⟩
theorem wd_enum (h : LsL K G a xs) (r : RepA K G xs ds) : WalkD K G (Ite K a) (enumF 0 ds) := by
  have hl := r.length
  have he := enumF_len ds 0
  refine ⟨fun i H hi s => walk_enum.goes i H (by omega) ((ls_same s h).sq), fun H s => ?_, fun i Gc H x H' d q sG sH y => ?_⟩
  · have := (walk_enum (K := K) (a := a) (xs := xs)).stops H ((ls_same s h).sq)
    rwa [hl, ← he] at this
  · have hi : i < (enumF 0 ds).length := (List.getElem?_eq_some_iff.mp q).1
    obtain ⟨T, u, v, e1, e2, e3, e4, e5⟩ := walk_enum.yields i H x H' (by omega) ((ls_same (sG.trans sH) h).sq) y
    rw [enumF_get] at q
    cases qd : ds[i]? with
    | none => rw [qd] at q; cases q
    | some d' =>
      rw [qd] at q
      simp only [Option.map_some, Option.some.injEq, Nat.zero_add] at q
      subst q
      obtain ⟨w, hw, rw'⟩ := r.get qd
      have e5 : xs[i]? = some v := e5
      rw [e5] at hw
      cases hw
      have e4 : some (V.int (i : Nat)) = some u := e4
      cases e4
      exact pair_rep sH e2 (.int _) (rw'.mono sG) e1 e3
theorem wd_zip (h : LsL K G a xs) (r : RepA K G xs ds) (h2 : LsL K G b ys) (r2 : RepA K G ys es) : WalkD K G (Itz K a b) (zipF ds es) := by
  have hl := r.length
  have hl2 := r2.length
  have he : (zipF ds es).length = min xs.length ys.length := by simp [zipF, hl, hl2]
  have w : Walk (Itz K a b) (zipF ds es).length (fun H => SqL K H a xs ∧ SqL K H b ys) (YPair (fun i => xs[i]?) (fun i => ys[i]?)) := walk_zip he
  have sq : ∀ H, Same G H → SqL K H a xs ∧ SqL K H b ys := fun H s => ⟨(ls_same s h).sq, (ls_same s h2).sq⟩
  refine ⟨fun i H hi s => w.goes i H hi (sq H s), fun H s => w.stops H (sq H s), fun i Gc H x H' d q sG sH y => ?_⟩
  have hi : i < (zipF ds es).length := (List.getElem?_eq_some_iff.mp q).1
  obtain ⟨T, u, v, e1, e2, e3, e4, e5⟩ := w.yields i H x H' hi (sq H (sG.trans sH)) y
  have hi2 : i < ds.length ∧ i < es.length := by omega
  have q1 : ds[i]? = some ds[i] := by simp [hi2.1]
  have q2 : es[i]? = some es[i] := by simp [hi2.2]
  have : d = .tuple [ds[i], es[i]] := by
    unfold zipF at q
    rw [List.getElem?_zipWith, q1, q2] at q
    exact (Option.some.inj q).symm
  subst this
  obtain ⟨w1, hw1, rw1⟩ := r.get q1
  obtain ⟨w2, hw2, rw2⟩ := r2.get q2
  have e4 : xs[i]? = some u := e4
  have e5 : ys[i]? = some v := e5
  rw [e4] at hw1
  rw [e5] at hw2
  cases hw1
  cases hw2
  exact pair_rep sH e2 (rw1.mono sG) (rw2.mono sG) e1 e3
end
abbrev LF := List (Option PyData) → R (List PyData)
def PostI (K : PySem.W.Frag) (ec : Nat → Addr) (W : WX) (σ : L2.St) (G H : Hp) (Q : It → Hp → Prop) : R (List PyData) → Prop
  | .ok ds => ∀ J G' H', Ext G H G' H' → WalkD K G' J ds → Q J H'
  | .ex c => ∀ H', Same H H' → W (.ref (ec c)) none σ H'
  | .no => False
def tDI (K : PySem.W.Frag) (ec : Nat → Addr) (W : WX) (f : LF) : TI := fun σ H Q => ∃ G env, Same G H ∧ EnvR K G σ env ∧ PostI K ec W σ G H Q (f env)
theorem PI_imp {X : Cx} {tg e : Expr} {t t' : TI} (h : PI X tg e t) (k : ∀ σ H Q, t' σ H Q → t σ H Q) : PI X tg e t' := ⟨fun pins s σ H Q I q => h.run pins s σ H Q I (k _ _ _ q)⟩
def itemsOf : PyData → R (List PyData)
  | .list ds => .ok ds
  | .tuple ds => .ok ds
  | .str z => .ok (signsF z)
  | _ => .no
noncomputable def rng1 : List PyData → R (List PyData)
  | [.int n] => if -lim < n ∧ n < lim then .ok (rngF 0 n.toNat) else .no
  | _ => .no
noncomputable def rng2 : List PyData → R (List PyData)
  | [.int a, .int b] => if -lim < a ∧ a < lim ∧ -lim < b ∧ b < lim then .ok (rngF a (b - a).toNat) else .no
  | _ => .no
def zip2 : List PyData → R (List PyData)
  | [.list a, .list b] => .ok (zipF a b)
  | _ => .no
def enum1 : List PyData → R (List PyData)
  | [.list a] => .ok (enumF 0 a)
  | _ => .no
def iSeq (f : EF) (env : List (Option PyData)) : R (List PyData) := (f env).bind itemsOf
def iCall (g : List PyData → R (List PyData)) (fs : List EF) (env : List (Option PyData)) : R (List PyData) := (aAll fs env).bind g
section
variable {K : PySem.W.Frag} {ec : Nat → Addr} {W : WX} {σ : L2.St} {G H : Hp} {Q : It → Hp → Prop}
theorem PostI.mono {G' H' : Hp} {r : R (List PyData)} (e : Ext G H G' H') (h : PostI K ec W σ G H Q r) : PostI K ec W σ G' H' Q r := by
  cases r with
  | ok d => exact fun v G2 H2 e2 p => h v G2 H2 (e.trans e2) p
  | ex c => exact fun H2 s2 => h H2 (e.h.trans s2)
  | no => exact h
theorem PostI.bind {Q' : VK} {r : R PyData} {k : PyData → R (List PyData)} (h : PostI K ec W σ G H Q (r.bind k)) (hk : ∀ v d G' H', r = .ok d → Ext G H G' H' → Rep K G' v d → PostI K ec W σ G' H' Q (k d) → Q' v H') : Post K ec W σ G H Q' r := by
  cases r with
  | ok d => exact fun v G' H' e p => hk v d G' H' rfl e p (PostI.mono e h)
  | ex c => exact h
  | no => exact h
theorem PostI.bindL {Q' : List V → Hp → Prop} {r : R (List PyData)} {k : List PyData → R (List PyData)} (h : PostI K ec W σ G H Q (r.bind k)) (hk : ∀ v d G' H', r = .ok d → Ext G H G' H' → RepA K G' v d → PostI K ec W σ G' H' Q (k d) → Q' v H') : PostL K ec W σ G H Q' r := by
  cases r with
  | ok d => exact fun v G' H' e p => hk v d G' H' rfl e p (PostI.mono e h)
  | ex c => exact h
  | no => exact h
end
section
variable {X : Cx} {ec : Nat → Addr} {W : WX} {tg e e2 e3 : Expr} {f : EF} {fs : List EF} {p pos tpos : Pos} {elts : List Expr} {kk : Nat}
theorem si_seq (he : PE X e (tD X.K ec W f)) : PI X tg e (tDI X.K ec W (iSeq f)) := by
  refine ⟨fun pins s σ H Q I h => ?_⟩
  obtain ⟨G, env, sg, E, p⟩ := h
  cases q : f env with
  | ex c =>
    refine (pi_list he).run pins s σ H Q I ⟨G, env, sg, E, ?_⟩
    have p : PostI X.K ec W σ G H Q ((f env).bind itemsOf) := p
    rw [q] at p ⊢
    exact p
  | no =>
    have p : PostI X.K ec W σ G H Q ((f env).bind itemsOf) := p
    rw [q] at p
    exact p.elim
  | ok d =>
    have p : PostI X.K ec W σ G H Q ((f env).bind itemsOf) := p
    cases d with
    | list ds =>
      refine (pi_list he).run pins s σ H Q I ⟨G, env, sg, E, PostI.bind p fun v d G' H' q' e1 r1 p1 => ?_⟩
      rw [q] at q'
      cases q'
      cases r1 with
      | @lst a xs _ ha r => exact ⟨a, rfl, ⟨xs, (ls_same e1.i ha).sq⟩, p1 _ G' H' (Ext.refl e1.i) (wd_list ha r)⟩
    | tuple ds =>
      refine (pi_tup he).run pins s σ H Q I ⟨G, env, sg, E, PostI.bind p fun v d G' H' q' e1 r1 p1 => ?_⟩
      rw [q] at q'
      cases q'
      cases r1 with
      | @tup a xs _ ha r => exact ⟨a, rfl, ⟨xs, sqT_same e1.i ha⟩, p1 _ G' H' (Ext.refl e1.i) (wd_tup ha r)⟩
    | str z =>
      refine (pi_str he).run pins s σ H Q I ⟨G, env, sg, E, PostI.bind p fun v d G' H' q' e1 r1 p1 => ?_⟩
      rw [q] at q'
      cases q'
      cases r1
      exact ⟨z, rfl, p1 _ G' H' (Ext.refl e1.i) wd_str⟩
    | _ => rw [q] at p; exact p.elim
theorem si_range1 (hg : Gl X "range") (hm : X.mg "range" = none) (ha : PA X [e] (tDA X.K ec W fs)) (hs : starEach [e] X.env = [(false, eval e X.env)] := by rfl) : PI X tg (.Call (.Name "range" p) [e] [] pos) (tDI X.K ec W (iCall rng1 fs)) :=
  PI_imp (pi_range1 hg hm ha hs) fun σ H Q ⟨G, env, sg, E, p⟩ => ⟨G, env, sg, E, PostI.bindL p fun vs ds G' H' q' e1 r1 p1 => by
    unfold rng1 at p1
    split at p1
    · rename_i n
      split at p1
      · rename_i hn
        cases r1 with
        | cons a b =>
          cases a
          cases b
          have hlim := lim_eq
          exact ⟨n, rfl, by omega, by omega, p1 _ G' H' (Ext.refl e1.i) wd_range⟩
      · exact p1.elim
    · exact p1.elim⟩
theorem si_range2 (hg : Gl X "range") (hm : X.mg "range" = none) (ha : PA X [e, e2] (tDA X.K ec W fs)) (hs : starEach [e, e2] X.env = [(false, eval e X.env), (false, eval e2 X.env)] := by rfl) (hs2 : starEach [e2] X.env = [(false, eval e2 X.env)] := by rfl) :
    PI X tg (.Call (.Name "range" p) [e, e2] [] pos) (tDI X.K ec W (iCall rng2 fs)) :=
  PI_imp (pi_range2 hg hm ha hs hs2) fun σ H Q ⟨G, env, sg, E, p⟩ => ⟨G, env, sg, E, PostI.bindL p fun vs ds G' H' q' e1 r1 p1 => by
    unfold rng2 at p1
    split at p1
    · rename_i n m
      split at p1
      · rename_i hn
        cases r1 with
        | cons a b =>
          cases a
          cases b with
          | cons a b =>
            cases a
            cases b
            have hlim := lim_eq
            exact ⟨n, m, rfl, ⟨by omega, by omega, by omega, by omega⟩, p1 _ G' H' (Ext.refl e1.i) wd_range⟩
      · exact p1.elim
    · exact p1.elim⟩
theorem si_enum (hg : Gl X "enumerate") (hm : X.mg "enumerate" = none) (ha : PA X [e] (tDA X.K ec W fs)) (hs : starEach [e] X.env = [(false, eval e X.env)] := by rfl) :
    PI X (.Tuple elts kk tpos) (.Call (.Name "enumerate" p) [e] [] pos) (tDI X.K ec W (iCall enum1 fs)) :=
  PI_imp (pi_enum hg hm ha hs) fun σ H Q ⟨G, env, sg, E, p⟩ => ⟨G, env, sg, E, PostI.bindL p fun vs ds G' H' q' e1 r1 p1 => by
    unfold enum1 at p1
    split at p1
    · cases r1 with
      | cons a b =>
        cases b
        cases a with
        | @lst l xs _ hl r => exact ⟨l, xs, rfl, (ls_same e1.i hl).sq, p1 _ G' H' (Ext.refl e1.i) (wd_enum hl r)⟩
    · exact p1.elim⟩
theorem si_zip (hg : Gl X "zip") (hm : X.mg "zip" = none) (ha : PA X [e, e2] (tDA X.K ec W fs)) (hs : starEach [e, e2] X.env = (false, eval e X.env) :: starEach [e2] X.env := by rfl) (hpl : (backTo pos (starEach [e2] X.env)).any (·.1) = false := by rfl) :
    PI X (.Tuple elts kk tpos) (.Call (.Name "zip" p) [e, e2] [] pos) (tDI X.K ec W (iCall zip2 fs)) :=
  PI_imp (pi_zip hg hm ha hs hpl) fun σ H Q ⟨G, env, sg, E, p⟩ => ⟨G, env, sg, E, PostI.bindL p fun vs ds G' H' q' e1 r1 p1 => by
    unfold zip2 at p1
    split at p1
    · cases r1 with
      | cons a b =>
        cases b with
        | cons b c =>
          cases c
          cases a with
          | @lst l xs _ hl r =>
            cases b with
            | @lst l2 ys _ hl2 r2 => exact ⟨l, l2, xs, ys, rfl, (ls_same e1.i hl).sq, (ls_same e1.i hl2).sq, p1 _ G' H' (Ext.refl e1.i) (wd_zip hl r hl2 r2)⟩
    · exact p1.elim⟩
end

/-! ### targets -/
abbrev GF := PyData → Ev → Option Ev
def gN (i : Nat) : GF := fun d env => some (env.set i (.pu d))
def setAll : List Nat → List PyData → Ev → Option Ev
  | [], [], env => some env
  | i :: is, d :: ds, env => setAll is ds (env.set i (.pu d))
  | _, _, _ => none
def gT (is : List Nat) : GF := fun d env => match d with
  | .tuple ds => setAll is ds env
  | _ => none
def gL (is : List Nat) : GF := fun d env => match d with
  | .list ds => setAll is ds env
  | _ => none
def tDG (K : PySem.W.Frag) (G0 H0 : Hp) (g : GF) : TG := fun v σ H Q => ∃ G env d env', StR K G0 H0 G H σ env ∧ Rep K G v d ∧ g d env = some env' ∧ ∀ σ', StR K G0 H0 G H σ' env' → Q σ' H
theorem PG_imp {X : Cx} {e : Expr} {t t' : TG} (h : PG X e t) (k : ∀ v σ H Q, t' v σ H Q → t v σ H Q) : PG X e t' := ⟨fun pins s σ H v u Q I r q => h.run pins s σ H v u Q I r (k _ _ _ _ q)⟩
/-- several names -/
def gNs : List Nat → TGs
  | [] => gNil
  | i :: is => gCons (gName i) (gNs is)
section
variable {X : Cx} {G0 H0 : Hp} {x : Str} {pos : Pos} {es : List Expr} {k n : Nat} {is : List Nat}
theorem gNs_ok {K : PySem.W.Frag} {G H : Hp} {Q : L2.St → Hp → Prop} : ∀ {is : List Nat} {ds : List PyData} {vs : List V} {σ : L2.St} {env env' : Ev}, StR K G0 H0 G H σ env → RepA K G vs ds → setAll is ds env = some env' → (∀ σ', StR K G0 H0 G H σ' env' → Q σ' H) → gNs is vs σ H Q
  | [], [], _, σ, env, env', S, r, e, q => by
    cases r
    cases e
    exact ⟨rfl, q σ S⟩
  | i :: is, d :: ds, _, σ, env, env', S, r, e, q => by
    cases r with
    | cons r1 r2 => exact ⟨_, _, rfl, gNs_ok (S.setP r1) r2 e q⟩
  | [], _ :: _, _, _, _, _, _, _, e, _ => by cases e
  | _ :: _, [], _, _, _, _, _, _, e, _ => by cases e
theorem setAll_len : ∀ {is : List Nat} {ds : List PyData} {env env' : Ev}, setAll is ds env = some env' → ds.length = is.length
  | [], [], _, _, _ => rfl
  | i :: is, d :: ds, env, env', e => by rw [List.length_cons, List.length_cons, setAll_len (is := is) (ds := ds) e]
  | [], _ :: _, _, _, e => by cases e
  | _ :: _, [], _, _, e => by cases e
theorem sg_name {i : Nat} (hN : X.N.Nodup) (hi : X.N[i]? = some x := by rfl) (hx : Loc X.env.scope x := by first | exact Or.inl rfl | exact Or.inr rfl) (hf : X.fn x = true ∨ X.env.scope.names.lookup x = some .local := by first | exact .inl rfl | exact .inr rfl | assumption) : PG X (.Name x pos) (tDG X.K G0 H0 (gN i)) :=
  PG_imp (pg_name hN hi hx hf) fun v σ H Q ⟨G, env, d, env', S, r, e, q⟩ => by
    cases e
    exact q _ (S.setP r)
theorem sn_nil : PGs X [] (gNs []) := pgs_nil
theorem sn_cons {i : Nat} (hN : X.N.Nodup) (h2 : PGs X es (gNs is)) (hi : X.N[i]? = some x := by rfl) (hx : Loc X.env.scope x := by first | exact Or.inl rfl | exact Or.inr rfl) (hf : X.fn x = true ∨ X.env.scope.names.lookup x = some .local := by first | exact .inl rfl | exact .inr rfl | assumption)
    (hs : (assignEach (.Name x pos :: es) X.env).map (·.2) = assign (.Name x pos) X.env :: (assignEach es X.env).map (·.2) := by rfl) : PGs X (.Name x pos :: es) (gNs (i :: is)) := pgs_cons (pg_name hN hi hx hf) h2 hs
theorem sg_tup (hc : X.calm = true) (h : PGs X es (gNs is)) (hn : (assignEach es X.env).length = is.length := by rfl) (hst : (assignEach es X.env).findIdx? (·.1) = none := by rfl) : PG X (.Tuple es k pos) (tDG X.K G0 H0 (gT is)) :=
  PG_imp (pg_tup hc h hn hst) fun v σ H Q ⟨G, env, d, env', S, r, e, q⟩ => by
    cases r with
    | @tup a xs ds ha r => exact ⟨a, xs, rfl, sqT_same S.x.i ha, by rw [r.length]; exact setAll_len e, gNs_ok S r e q⟩
    | _ => cases e
theorem sg_lst (hc : X.calm = true) (h : PGs X es (gNs is)) (hn : (assignEach es X.env).length = is.length := by rfl) (hst : (assignEach es X.env).findIdx? (·.1) = none := by rfl) : PG X (.Tuple es k pos) (tDG X.K G0 H0 (gL is)) :=
  PG_imp (pg_lst hc h hn hst) fun v σ H Q ⟨G, env, d, env', S, r, e, q⟩ => by
    cases r with
    | @lst a xs ds ha r => exact ⟨a, xs, rfl, (ls_same S.x.i ha).sq, by rw [r.length]; exact setAll_len e, gNs_ok S r e q⟩
    | _ => cases e
end

/-! ### loops -/
def forF (tg : GF) (body : SF) : List PyData → Ev → Out
  | [], env => .nx env
  | d :: ds, env => match tg d env with
    | none => .no
    | some e1 => (body e1).loop (forF tg body ds)
def sFor (tg : GF) (fi : LF) (body : SF) (env : Ev) : Out := (fi (env.map Sl.pur)).outL fun ds => forF tg body ds env
def whileF (t : TF) (body : SF) : Nat → Ev → Out
  | 0, _ => .no
  | n + 1, env => (t (env.map Sl.full)).outB fun b => if b then (body env).loop (whileF t body n) else .nx env
def sWhile (n : Nat) (t : TF) (body : SF) (env : Ev) : Out := whileF t body n env
def sAsgT (m : Md) (tg : GF) (f : EF) (env : Ev) : Out := (evM m f env).out fun d => match tg d env with
  | none => .no
  | some e => .nx e
section
variable {X : Cx} {ec : Nat → Addr} {W : WX} {G0 H0 : Hp} {tg iter e c : Expr} {body : List Stmt} {g : GF} {fi : LF} {fe : EF} {ft : TF} {fb : SF} {pos : Pos}
theorem ss_asgT (m : Md) (he : PE X e (tD X.K ec W fe)) (hg : PG X tg (tDG X.K G0 H0 g)) (hs : swapsWithSole [tg] e pos.line X.env = pure false := by rfl) (hw : swappedStores [tg] e X.env = pure none := by rfl)
    (h1 : (assignEach [tg] X.env).map (·.2) = [assign tg X.env] := by rfl) : PS X (.Assign [tg] e pos) (tDS X.K ec W G0 H0 (sAsgT m g fe)) :=
  PS_imp (ps_asg he hg hs hw h1) fun D σ H ⟨G, env, S, p⟩ => tD_M (m := m) S (PostE.out p fun v d G' H' _ gg S' r p' => by
    cases q : g d env with
    | none => rw [q] at p'; exact p'.elim
    | some e' => rw [q] at p'; exact ⟨G', env, d, e', S', r, q, fun σ' S2 => p' σ' G' H' (Same.refl _) S2⟩)
theorem ss_for (hp : PassesOwn (model X.prog X.w) X.A X.env X.xe) (hc : X.calm = true) (hi : PI X tg iter (tDI X.K ec W fi)) (hg : PG X tg (tDG X.K G0 H0 g)) (hb : PSs X body (tDS X.K ec W G0 H0 fb))
    (hs : ∀ x, foldedSetIterable iter X.env x = pure x := by intro _; rfl) : PS X (.For tg iter body [] pos) (tDS X.K ec W G0 H0 (sFor g fi fb)) := by
  refine PS_imp (ps_for hp hc hi hg hb hs) fun D σ H ⟨G, env, S, p⟩ => ⟨G, _, S.x.i, S.envP, ?_⟩
  unfold sFor at p
  cases q : fi (env.map Sl.pur) with
  | ex c => rw [q] at p; exact fun H' s => p σ H' (S.x.h.trans s)
  | no => rw [q] at p; exact p
  | ok ds =>
    rw [q] at p
    intro J G1 H1 e1 w
    have wk : Walk J ds.length (fun H => Same G1 H) (fun i H x H' => ∀ Gc d, ds[i]? = some d → Same G1 Gc → Same Gc H → ∃ Gc', Ext Gc H Gc' H' ∧ Rep X.K Gc' x d) :=
      ⟨fun i H hi s => w.go i H hi s, fun H s => w.stop H s, fun i H x H' hi s y Gc d hd s1 s2 => w.yld i Gc H x H' d hd s1 s2 y⟩
    refine for_it wk (fun i σ H => ∃ G2 env2, Same G1 G2 ∧ StR X.K G0 H0 G2 H σ env2 ∧ PostS X.K ec W G0 H0 G2 D (forF g fb (ds.drop i) env2)) ⟨G1, env, Same.refl _, S.grow e1, PostS.mono e1.g p⟩ ?_ ?_ ?_
    · rintro i σ H _ ⟨G2, env2, s2, S2, _⟩
      exact s2.trans S2.x.i
    · rintro i x σ H H' hi ⟨G2, env2, s2, S2, p2⟩ y
      have hd : ds[i]? = some ds[i] := by simp [hi]
      obtain ⟨G3, e3, r3⟩ := y G2 ds[i] hd s2 S2.x.i
      rw [List.drop_eq_getElem_cons hi] at p2
      unfold forF at p2
      cases qg : g ds[i] env2 with
      | none => rw [qg] at p2; exact p2.elim
      | some env3 =>
        rw [qg] at p2
        refine ⟨G3, env2, _, env3, S2.grow e3, r3, qg, fun σ' S4 => ⟨G3, env3, S4, ?_⟩⟩
        dsimp only at p2
        cases qb : fb env3 with
        | nx e => rw [qb] at p2; exact fun σ5 G5 H5 s5 S5 => ⟨G5, e, (s2.trans e3.g).trans s5, S5, PostS.mono (e3.g.trans s5) p2⟩
        | ct e => rw [qb] at p2; exact fun σ5 G5 H5 s5 S5 => ⟨G5, e, (s2.trans e3.g).trans s5, S5, PostS.mono (e3.g.trans s5) p2⟩
        | bk e => rw [qb] at p2; exact fun σ5 G5 H5 s5 S5 => p2 σ5 G5 H5 (e3.g.trans s5) S5
        | rt d => rw [qb] at p2; exact p2
        | ex c => rw [qb] at p2; exact p2
        | no => rw [qb] at p2; exact p2
    · rintro σ H ⟨G2, env2, s2, S2, p2⟩
      rw [List.drop_length] at p2
      exact p2 σ G2 H (Same.refl _) S2
theorem ss_while (n : Nat) (hp : PassesOwn (model X.prog X.w) X.A X.env X.xe) (hc : PT X c (tDT X.K ec W ft)) (hb : PSs X body (tDS X.K ec W G0 H0 fb)) : PS X (.While c body [] pos) (tDS X.K ec W G0 H0 (sWhile n ft fb)) := by
  refine PS_imp (ps_while hp hc hb) fun D σ H ⟨G, env, S, p⟩ => ?_
  refine ⟨fun m σ H => ∃ G env, StR X.K G0 H0 G H σ env ∧ PostS X.K ec W G0 H0 G D (whileF ft fb m env), ⟨n, G, env, S, p⟩, ?_⟩
  rintro m σ H ⟨G, env, S, p⟩
  cases m with
  | zero => exact p.elim
  | succ m =>
    unfold whileF at p
    refine tDT_F S p fun b H1 s1 S1 p1 => ?_
    cases b with
    | false => exact iteF (p1 σ G H1 (Same.refl _) S1)
    | true =>
      refine iteT ⟨fun σ H => ∃ G env, StR X.K G0 H0 G H σ env ∧ PostS X.K ec W G0 H0 G D (whileF ft fb m env), fun σ' H' h => ⟨m, Nat.lt_succ_self _, h⟩, ⟨G, env, S1, ?_⟩⟩
      rw [if_pos rfl] at p1
      cases qb : fb env with
      | nx e => rw [qb] at p1; exact fun σ5 G5 H5 s5 S5 => ⟨G5, e, S5, PostS.mono s5 p1⟩
      | ct e => rw [qb] at p1; exact fun σ5 G5 H5 s5 S5 => ⟨G5, e, S5, PostS.mono s5 p1⟩
      | bk e => rw [qb] at p1; exact fun σ5 G5 H5 s5 S5 => p1 σ5 G5 H5 s5 S5
      | rt d => rw [qb] at p1; exact p1
      | ex c => rw [qb] at p1; exact p1
      | no => rw [qb] at p1; exact p1
end

/-! ### the body of a def -/
def entry (n : Nat) (ds : List PyData) : Ev := ds.map Sl.pu ++ List.replicate (n - ds.length) Sl.no
def Out.res : Out → R PyData
  | .nx _ => .ok .none
  | .rt d => .ok d
  | .ex c => .ex c
  | _ => .no
/-- what a def is worth: n its slots, f its body -/
def runB (n : Nat) (f : SF) (ds : List PyData) : R PyData := (f (entry n ds)).res
theorem start_ok {K : PySem.W.Frag} {N : List Str} {vs : List V} {ds : List PyData} {G H : Hp} (t : Tbs G) (i : Same G H) (r : RepA K G vs ds) : StR K G H G H (start N vs) (entry N.length ds) := by
  have hl := r.length
  have key : ∀ (j : Nat) (s : Sl), (entry N.length ds)[j]? = some s → (∃ d, s = .pu d ∧ ds[j]? = some d) ∨ s = .no := fun j s q => by
    unfold entry at q
    by_cases hj : j < ds.length
    · rw [List.getElem?_append_left (by simpa using hj), List.getElem?_map] at q
      cases e : ds[j]? with
      | none => rw [e] at q; cases q
      | some d => rw [e] at q; cases q; exact .inl ⟨d, rfl, rfl⟩
    · rw [List.getElem?_append_right (by simpa using hj), List.getElem?_replicate] at q
      split at q
      · cases q; exact .inr rfl
      · cases q
  refine ⟨t, Ext.refl i, by unfold L2.start entry; simp [hl], fun j d q => ?_, fun j d q => ?_, fun j k d d' l _ q => ?_⟩
  · rcases key j _ q with ⟨d', e, q'⟩ | e
    · cases e
      obtain ⟨v, hv, rv⟩ := r.get q'
      refine ⟨v, ?_, rv⟩
      have hj : j < vs.length := (List.getElem?_eq_some_iff.mp hv).1
      unfold L2.start
      rw [List.getElem?_append_left (by simpa using hj), List.getElem?_map, hv]
      rfl
    · cases e
  · rcases key j _ q with ⟨d', e, _⟩ | e <;> cases e
  · rcases key j _ q with ⟨d', e, _⟩ | e <;> cases e
section
variable {P : Program} {w : World} {K : PySem.W.Frag} {mg : Str → Option Value} {base : Heap}
theorem fn_pure {ec : Nat → Addr} {x qual : Str} {st : Stmt} {f : Addr} {fd : FuncData} {N ps : List Str} {k n : Nat} {fb : SF} (F : Fun K x qual st f fd) (S : FnScope N ps (defScope st)) (hn : ps.length = n)
    (hbody : ∀ (cdv : Value) (A : Around) (outer : List Env) (s : Shared) (G0 H : Hp) (E : XK), Same G0 H → Room k (A.deeper (envOfC qual (defScope st) s.heap.objs.size f cdv)) →
      PSs (cxOf (L2N.CX P w) P w K mg base N qual (defScope st) f cdv A outer s H E) (defBody st) (tDS K ec (fun cls d _ H => E cls d H) G0 H fb)) :
    FnOk P w K mg base (L2N.CX P w) (k + 1) f fd ps (spP K ec n (runB N.length fb)) := by
  obtain ⟨oc, od, kV, doc, pm, an, cdv, ct, osl, rfl, lk, hcd⟩ := F.ex
  refine fn_of lk hcd S (fun vs H Q E h => by rw [h.1, hn]) fun A outer s H vs Q E hr h => ?_
  obtain ⟨hl, G, ds, t, i, r, p⟩ := h
  refine ⟨_, hbody cdv A outer s G H E i hr, G, _, start_ok t i r, ?_⟩
  unfold runB at p
  cases q : fb (entry N.length ds) with
  | nx e => rw [q] at p; exact fun σ' G' H' g S' => p _ G' H' S'.x .non
  | rt d => rw [q] at p; exact p
  | ex c => rw [q] at p; exact fun _ H' s => p H' s
  | bk e => rw [q] at p; exact p.elim
  | ct e => rw [q] at p; exact p.elim
  | no => rw [q] at p; exact p.elim
end
end PL
/-! PL, part f: what is new and owned, comprehensions, changes of what is owned. -/
namespace PL
open PySem PySem.Spec PyProof.Rows L2

/-! ### new things -/
def PostN (K : PySem.W.Frag) (ec : Nat → Addr) (W : WX) (σ : L2.St) (G H : Hp) (Q : VK) : R PyData → Prop
  | .ok d => ∀ l G' H', Ext G H G' H' → H l = none → G' l = none → Own K G' H' l d → Q (.ref l) H'
  | .ex c => ∀ H', Same H H' → W (.ref (ec c)) none σ H'
  | .no => False
def tDN (K : PySem.W.Frag) (ec : Nat → Addr) (W : WX) (f : EF) : TE := fun σ H Q => ∃ G env, Same G H ∧ EnvR K G σ env ∧ PostN K ec W σ G H Q (f env)
section
variable {K : PySem.W.Frag} {ec : Nat → Addr} {W : WX} {σ : L2.St} {G H G' H' : Hp} {Q : VK}
theorem PostN.mono {r : R PyData} (e : Ext G H G' H') (h : PostN K ec W σ G H Q r) : PostN K ec W σ G' H' Q r := by
  cases r with
  | ok d => exact fun l G2 H2 e2 n g o => h l G2 H2 (e.trans e2) (e.h.free n) g o
  | ex c => exact fun H2 s2 => h H2 (e.h.trans s2)
  | no => exact h
theorem PostN.bindL {Q' : List V → Hp → Prop} {r : R (List PyData)} {k : List PyData → R PyData} (h : PostN K ec W σ G H Q (r.bind k)) (hk : ∀ vs ds G' H', r = .ok ds → Ext G H G' H' → RepA K G' vs ds → PostN K ec W σ G' H' Q (k ds) → Q' vs H') : PostL K ec W σ G H Q' r := by
  cases r with
  | ok d => exact fun v G' H' e p => hk v d G' H' rfl e p (PostN.mono e h)
  | ex c => exact h
  | no => exact h
theorem PostN.bindI {Q' : It → Hp → Prop} {r : R (List PyData)} {k : List PyData → R PyData} (h : PostN K ec W σ G H Q (r.bind k)) (hk : ∀ J ds G' H', r = .ok ds → Ext G H G' H' → WalkD K G' J ds → PostN K ec W σ G' H' Q (k ds) → Q' J H') : PostI K ec W σ G H Q' r := by
  cases r with
  | ok d => exact fun v G' H' e p => hk v d G' H' rfl e p (PostN.mono e h)
  | ex c => exact h
  | no => exact h
theorem Post.new {r : R PyData} (i : Same G H) (h : Post K ec W σ G H Q r) : PostN K ec W σ G H Q r := by
  cases r with
  | ok d =>
    intro l G' H' e n g o
    obtain ⟨u, hu, hr⟩ := o.there
    have s : Same G' (upd G' l u) := same_new g
    refine h _ (upd G' l u) H' ⟨e.g.trans s, e.h, same_in e.i hu (by obtain ⟨u0, hu0, ht0⟩ := o.tame; rw [hu] at hu0; cases hu0; exact ht0), fun b h1 h2 => ?_⟩ (hr _ s upd_same)
    · by_cases hb : b = l
      · subst hb; exact n
      · rw [upd_ne hb] at h1; exact e.f b h1 h2
  | ex c => exact h
  | no => exact h
end
section
variable {X : Cx} {ec : Nat → Addr} {W : WX} {e a b : Expr} {es : List Expr} {f : EF} {fs : List EF} {pos : Pos}
theorem se_new (h : PE X e (tDN X.K ec W f)) : PE X e (tD X.K ec W f) := PE_imp h fun σ H Q ⟨G, env, s, E, p⟩ => ⟨G, env, s, E, Post.new s p⟩
theorem own_new {K : PySem.W.Frag} {G H : Hp} {vs : List V} {ds : List PyData} {l : Addr} (r : RepA K G vs ds) : Own K G (upd H l (.lst vs)) l (.list ds) := ⟨vs, upd_same, r⟩
theorem sn_lst (h : PA X es (tDA X.K ec W fs)) (hl : fs.length ≤ 1000 := by exact Nat.le_of_ble_eq_true rfl) : PE X (.List es pos) (tDN X.K ec W (eLst fs)) :=
  PE_imp (pe_lst h) fun σ H Q ⟨G, env, s, E, p⟩ => ⟨G, env, s, E, PostN.bindL p fun vs ds G1 H1 q e1 r1 p1 => by
    have hn : vs.length ≤ 1000 := by rw [r1.length, aAll_len q]; exact hl
    exact ⟨Nat.le_of_lt (small1000 hn), fun l n => p1 l G1 _ (Ext.heap e1.i (same_new n)) n (e1.i.free n) (own_new r1)⟩⟩
end

/-! ### comprehensions -/
abbrev GE := PyData → List (Option PyData) → Option (List (Option PyData))
def cN (i : Nat) : GE := fun d env => some (env.set i (some d))
def setE : List Nat → List PyData → List (Option PyData) → Option (List (Option PyData))
  | [], [], env => some env
  | i :: is, d :: ds, env => setE is ds (env.set i (some d))
  | _, _, _ => none
def cT (is : List Nat) : GE := fun d env => match d with
  | .tuple ds => setE is ds env
  | _ => none
def lcF (tg : GE) (tt : TF) (te : EF) : List PyData → List (Option PyData) → R (List PyData)
  | [], _ => .ok []
  | d :: ds, env => match tg d env with
    | none => .no
    | some e1 => (tt e1).bind fun b => if b then (te e1).bind fun y => (lcF tg tt te ds env).bind fun ys => .ok (y :: ys) else lcF tg tt te ds env
def R.sure {α : Type} : R α → R α
  | .ok a => .ok a
  | _ => .no
@[simp] theorem R.sure_ok {α : Type} (a : α) : (R.ok a).sure = .ok a := rfl
noncomputable def lcE (ys : List PyData) : R PyData := if ys.length < szl then .ok (.list ys) else .no
noncomputable def eLc (tg : GE) (fi : LF) (tt : TF) (te : EF) (env : List (Option PyData)) : R PyData := (fi env).bind fun ds => ((lcF tg tt te ds env).sure).bind lcE
def bYes (_ : List (Option PyData)) : R Bool := .ok true
abbrev WNo : WX := fun _ _ _ _ => False

theorem wipe_get (σ : L2.St) (j : Nat) : ∀ vs : List Nat, (wipe σ vs)[j]? = if j ∈ vs then (σ[j]?).map (fun _ => none) else σ[j]?
  | [] => by simp [wipe]
  | v :: vs => by
    unfold wipe
    rw [List.getElem?_set, wipe_get σ j vs, wipe_length]
    by_cases h : v = j
    · subst h
      simp only [List.mem_cons_self, if_true]
      by_cases hl : v < σ.length
      · simp [hl]
      · simp [hl]
    · have hj : ¬ j = v := fun e => h e.symm
      simp only [List.mem_cons, hj, false_or, if_neg h]
theorem wipe_set (σ : L2.St) (i : Nat) (x : Option V) (vs : List Nat) (h : i ∈ vs) : wipe (σ.set i x) vs = wipe σ vs := by
  apply List.ext_getElem?
  intro j
  rw [wipe_get, wipe_get, List.getElem?_set]
  by_cases e : i = j
  · subst e
    simp only [h, if_true]
    by_cases hl : i < σ.length
    · simp [hl]
    · simp [hl]
  · simp only [if_neg e]
theorem wipe_wipe (σ : L2.St) (vs : List Nat) : wipe (wipe σ vs) vs = wipe σ vs := by
  apply List.ext_getElem?
  intro j
  rw [wipe_get, wipe_get]
  by_cases h : j ∈ vs
  · simp only [h, if_true]
    cases σ[j]? <;> rfl
  · simp only [h, if_false]
/-- env but for the slots of rest -/
def EnvX (K : PySem.W.Frag) (G : Hp) (σ : L2.St) (env : List (Option PyData)) (rest : List Nat) : Prop := env.length ≤ σ.length ∧ ∀ (i : Nat) (d : PyData), i ∉ rest → env[i]? = some (some d) → ∃ v, σ[i]? = some (some v) ∧ Rep K G v d
theorem EnvX.start {K : PySem.W.Frag} {G : Hp} {σ : L2.St} {env : List (Option PyData)} {vs : List Nat} (E : EnvR K G σ env) : EnvX K G (wipe σ vs) env vs :=
  ⟨by rw [wipe_length]; exact E.len, fun i d hi q => by rw [wipe_get, if_neg hi]; exact E.at' i d q⟩
theorem EnvX.set {K : PySem.W.Frag} {G : Hp} {σ : L2.St} {env : List (Option PyData)} {i : Nat} {rest : List Nat} {v : V} {d : PyData} (E : EnvX K G σ env (i :: rest)) (r : Rep K G v d) : EnvX K G (σ.set i (some v)) (env.set i (some d)) rest := by
  refine ⟨by rw [List.length_set, List.length_set]; exact E.1, fun j d' hj q => ?_⟩
  by_cases e : i = j
  · subst e
    have hl : i < env.length := by
      by_cases hl : i < env.length
      · exact hl
      · rw [List.getElem?_eq_none (by simpa using hl)] at q; cases q
    rw [List.getElem?_set_self hl] at q
    cases q
    exact ⟨v, List.getElem?_set_self (Nat.lt_of_lt_of_le hl E.1), r⟩
  · rw [List.getElem?_set_ne e] at q ⊢
    exact E.2 j d' (by simp only [List.mem_cons, not_or]; exact ⟨fun z => e z.symm, hj⟩) q
theorem EnvX.done {K : PySem.W.Frag} {G : Hp} {σ : L2.St} {env : List (Option PyData)} (t : Tbs G) (E : EnvX K G σ env []) : EnvR K G σ env := ⟨t, E.1, fun i d => E.2 i d (by simp)⟩
/-- the target's rule g does on slots what tg does on data -/
def TgOk (K : PySem.W.Frag) (vs : List Nat) (g : TG) (tg : GE) : Prop :=
  ∀ (G H : Hp) (σ : L2.St) (env env' : List (Option PyData)) (v : V) (d : PyData) (Q : L2.St → Hp → Prop), Same G H → EnvR K G σ env → Rep K G v d → tg d env = some env' →
    (∀ σ2, wipe σ2 vs = wipe σ vs → EnvR K G σ2 env' → Q σ2 H) → g v (wipe σ vs) H Q
theorem tg_name {K : PySem.W.Frag} {i : Nat} : TgOk K [i] (gName i) (cN i) := by
  intro G H σ env env' v d Q s E r e q
  cases e
  exact q _ (by rw [wipe_set _ _ _ _ (by simp), wipe_wipe]) (EnvX.done E.tb ((EnvX.start E).set r))
theorem tg_names {K : PySem.W.Frag} {vs : List Nat} {σ0 : L2.St} {G H : Hp} {Q : L2.St → Hp → Prop} : ∀ {is : List Nat} {ds : List PyData} {xs : List V} {σ : L2.St} {env env' : List (Option PyData)}, Tbs G → (∀ i ∈ is, i ∈ vs) → wipe σ vs = wipe σ0 vs → EnvX K G σ env is → RepA K G xs ds → setE is ds env = some env' →
    (∀ σ2, wipe σ2 vs = wipe σ0 vs → EnvR K G σ2 env' → Q σ2 H) → gNs is xs σ H Q
  | [], [], _, σ, env, env', t, _, hw, E, r, e, q => by
    cases r
    cases e
    exact ⟨rfl, q σ hw (E.done t)⟩
  | i :: is, d :: ds, _, σ, env, env', t, hi, hw, E, r, e, q => by
    cases r with
    | cons r1 r2 => exact ⟨_, _, rfl, tg_names t (fun j hj => hi j (List.mem_cons_of_mem _ hj)) (by rw [wipe_set _ _ _ _ (hi i List.mem_cons_self), hw]) (E.set r1) r2 e q⟩
  | [], _ :: _, _, _, _, _, _, _, _, _, _, e, _ => by cases e
  | _ :: _, [], _, _, _, _, _, _, _, _, _, e, _ => by cases e
theorem setE_len : ∀ {is : List Nat} {ds : List PyData} {env env' : List (Option PyData)}, setE is ds env = some env' → ds.length = is.length
  | [], [], _, _, _ => rfl
  | i :: is, d :: ds, env, env', e => by rw [List.length_cons, List.length_cons, setE_len (is := is) (ds := ds) e]
  | [], _ :: _, _, _, e => by cases e
  | _ :: _, [], _, _, e => by cases e
theorem tg_tuple {K : PySem.W.Frag} {is : List Nat} : TgOk K is (gTup K is.length (gNs is)) (cT is) := by
  intro G H σ env env' v d Q s E r e q
  cases r with
  | @tup a xs ds ha r => exact ⟨a, xs, rfl, sqT_same s ha, by rw [r.length]; exact setE_len e, tg_names E.tb (fun i hi => hi) (by rw [wipe_wipe]) (EnvX.start E) r e q⟩
  | _ => cases e
theorem lcF_len {tg : GE} {tt : TF} {te : EF} : ∀ {ds : List PyData} {env : List (Option PyData)} {d : PyData} {env' : List (Option PyData)} {ys : List PyData}, lcF tg tt te (d :: ds) env = .ok ys → tg d env = some env' →
    (tt env' = .ok false ∧ lcF tg tt te ds env = .ok ys) ∨ (tt env' = .ok true ∧ ∃ y zs, te env' = .ok y ∧ lcF tg tt te ds env = .ok zs ∧ ys = y :: zs) := by
  intro ds env d env' ys h e
  unfold lcF at h
  rw [e] at h
  dsimp only at h
  cases q : tt env' with
  | ok b =>
    rw [q] at h
    rw [R.bind_ok] at h
    cases b with
    | false => exact .inl ⟨rfl, h⟩
    | true =>
      rw [if_pos rfl] at h
      cases q2 : te env' with
      | ok y =>
        rw [q2] at h
        rw [R.bind_ok] at h
        cases q3 : lcF tg tt te ds env with
        | ok zs => rw [q3] at h; cases h; exact .inr ⟨rfl, y, zs, rfl, rfl, rfl⟩
        | ex c => rw [q3] at h; cases h
        | no => rw [q3] at h; cases h
      | ex c => rw [q2] at h; cases h
      | no => rw [q2] at h; cases h
  | ex c => rw [q] at h; cases h
  | no => rw [q] at h; cases h
theorem tLc_N {K : PySem.W.Frag} {ec : Nat → Addr} {W : WX} {fi : LF} {g : TG} {tg : GE} {tt : TF} {te : EF} {vs : List Nat} (tk : TgOk K vs g tg) {σ : L2.St} {H : Hp} {Q : VK} :
    tDN K ec W (eLc tg fi tt te) σ H Q → tLc (tDI K ec W fi) g (tDT K ec WNo tt) (tD K ec WNo te) vs σ H Q := by
  rintro ⟨G, env, s, E, p⟩
  refine ⟨G, env, s, E, PostN.bindI p fun J ds G1 H1 q e1 w p1 D hD => ?_⟩
  cases ql : lcF tg tt te ds env with
  | ex c => rw [ql] at p1; exact p1.elim
  | no => rw [ql] at p1; exact p1.elim
  | ok ys =>
    rw [ql, R.sure_ok, R.bind_ok] at p1
    unfold lcE at p1
    split at p1
    · rename_i hsz
      have gD : G1 D = none := e1.i.free hD
      have wk : Walk J ds.length (fun H => Same G1 H) (fun i H x H' => ∀ Gc d, ds[i]? = some d → Same G1 Gc → Same Gc H → ∃ Gc', Ext Gc H Gc' H' ∧ Rep K Gc' x d) :=
        ⟨fun i H hi s => w.go i H hi s, fun H s => w.stop H s, fun i H x H' hi s y Gc d hd s1 s2 => w.yld i Gc H x H' d hd s1 s2 y⟩
      refine lc_it wk (fun i H => ∃ G2 acc us zs, Ext G1 H1 G2 H ∧ G2 D = none ∧ H D = some (.lst acc) ∧ RepA K G2 acc us ∧ lcF tg tt te (ds.drop i) env = .ok zs ∧ ys = us ++ zs)
        ⟨G1, [], [], ys, Ext.heap e1.i (same_new hD), gD, upd_same, .nil, ql, rfl⟩ ?_ ?_ ?_
      · rintro i H _ ⟨G2, acc, us, zs, e2, _⟩
        exact e2.g.trans e2.i
      · rintro i x H H' hi ⟨G2, acc, us, zs, e2, g2, hd2, r2, l2, hy⟩ y
        have hd : ds[i]? = some ds[i] := by simp [hi]
        obtain ⟨G3, e3, r3⟩ := y G2 ds[i] hd e2.g e2.i
        rw [List.drop_eq_getElem_cons hi] at l2
        cases qg : tg ds[i] env with
        | none => unfold lcF at l2; rw [qg] at l2; cases l2
        | some env3 =>
          have g3 : G3 D = none := e3.clean g2 hd2
          refine tk G3 H' σ env env3 x ds[i] _ e3.i (E.mono (e1.g.trans (e2.g.trans e3.g))) r3 qg fun σ2 hw E2 => ⟨hw, ?_⟩
          rcases lcF_len l2 qg with ⟨t0, l3⟩ | ⟨t0, y0, zs0, ty, l3, ez⟩
          · refine ⟨G3, env3, e3.i, E2, ?_⟩
            rw [t0]
            intro H4 s4
            refine iteF ⟨G3, acc, us, zs, (e2.trans e3).trans (Ext.heap e3.i s4), g3, s4.lst (e3.h.lst hd2), r2.mono e3.g, l3, hy⟩
          · refine ⟨G3, env3, e3.i, E2, ?_⟩
            rw [t0]
            intro H4 s4
            refine iteT ⟨G3, env3, e3.i.trans s4, E2, ?_⟩
            rw [ty]
            intro v G5 H5 e5 r5
            have hd5 : H5 D = some (.lst acc) := e5.h.lst (s4.lst (e3.h.lst hd2))
            have g5 : G5 D = none := e5.clean g3 (s4.lst (e3.h.lst hd2))
            have hacc : acc.length < szl := by
              rw [r2.length]
              have := congrArg List.length hy
              rw [List.length_append, ez, List.length_cons] at this
              omega
            have e6 : Ext G1 H1 G5 H5 := (e2.trans e3).trans ((Ext.heap e3.i s4).trans e5)
            refine ⟨acc, hd5, Nat.lt_of_lt_of_le hacc (szl_line (Nat.le_refl _)), G5, acc ++ [v], us ++ [y0], zs0, ⟨e6.g, same_put e6.h hD hd5 (tame_lst _), same_put e6.i g5 hd5 (tame_lst _), e6.f⟩, g5, upd_same, (r2.mono (e3.g.trans e5.g)).append (.cons r5 .nil), l3, by rw [hy, ez, List.append_assoc]; rfl⟩
      · rintro H ⟨G2, acc, us, zs, e2, g2, hd2, r2, l2, hy⟩
        rw [List.drop_length] at l2
        cases l2
        rw [List.append_nil] at hy
        subst hy
        exact p1 D G2 H e2 hD g2 ⟨acc, hd2, r2⟩
    · exact p1.elim
section
variable {X : Cx} {ec : Nat → Addr} {W : WX} {G0 H0 : Hp} {elt tg iter : Expr} {ifs : List Expr} {scope : Scope} {own : List (Str × Nat)} {pos : Pos} {g : TG} {gd : GE} {fi : LF} {tt : TF} {te : EF} {vs : List Nat}
theorem sts_nil : PTs X [] (tDT X.K ec WNo bYes) := ⟨fun pins s σ H Q I ⟨G, env, sg, E, p⟩ => pts_nil.run pins s σ H Q I (p H (Same.refl _))⟩
theorem sts_one {c : Expr} (h : PT X c (tDT X.K ec WNo tt)) : PTs X [c] (tDT X.K ec WNo tt) := pts_one h
/-- a comprehension's block as a value -/
theorem sn_lc (tk : TgOk X.K vs g gd) (hv : own.map (·.2) = vs) (hc : X.calm = true) (hN : X.N.Nodup) (hi : PI X tg iter (tDI X.K ec W fi)) (ok : BlkOk X.N X.env.scope scope own)
    (hg : ∀ (s : Shared) (H : Hp) (C : Addr) (cl : List (Str × Addr)) (fp : List Addr), PG (X.blk s H scope (compEnvC scope cl C X.env) fp) tg g) (ht : ∀ (s : Shared) (H : Hp) (C : Addr) (cl : List (Str × Addr)) (fp : List Addr), PTs (X.blk s H scope (compEnvC scope cl C X.env) fp) ifs (tDT X.K ec WNo tt))
    (he : ∀ (s : Shared) (H : Hp) (C : Addr) (cl : List (Str × Addr)) (fp : List Addr), PE (X.blk s H scope (compEnvC scope cl C X.env) fp) elt (tD X.K ec WNo te)) (hs : ∀ x, foldedSetIterable iter X.env x = pure x := by intro _; rfl) :
    PE X (.ListComp elt [⟨tg, iter, ifs, 0⟩] scope pos) (tDN X.K ec W (eLc gd fi tt te)) :=
  PE_imp (pe_lc hc hN hi ok hg ht he hs) fun σ H Q h => by rw [hv]; exact tLc_N tk h
end
def sOwn (i : Nat) (f : EF) (env : Ev) : Out := (f (env.map Sl.pur)).out fun d => .nx (env.set i (.ow d))
section
variable {K : PySem.W.Frag} {ec : Nat → Addr} {W : WX} {G0 H0 G H : Hp} {D : Ends} {σ : L2.St} {env : Ev}
theorem tDN_own {f : EF} {i : Nat} (S : StR K G0 H0 G H σ env) (p : PostS K ec W G0 H0 G D (sOwn i f env)) : tDN K ec W f σ H fun x H1 => gName i x σ H1 D.nx := by
  refine ⟨G, _, S.x.i, S.envP, ?_⟩
  unfold sOwn at p
  cases q : f (env.map Sl.pur) with
  | ok d =>
    rw [q] at p
    intro l G' H' e n g o
    refine p _ G' H' e.g ((S.grow e).setO g (S.x.h.free n) o fun j d' hj qj hs => ?_)
    obtain ⟨l', h1, _, _, h4⟩ := S.ow j d' qj
    rw [hs] at h1
    cases h1
    obtain ⟨u, hu, _⟩ := h4.there
    rw [n] at hu
    cases hu
  | ex c => rw [q] at p; exact fun H' s => p σ H' (S.x.h.trans s)
  | no => rw [q] at p; exact p
end
section
variable {X : Cx} {ec : Nat → Addr} {W : WX} {G0 H0 : Hp} {e : Expr} {fe : EF} {pos pos' : Pos} {i : Nat} {x : Str}
theorem ss_own (hN : X.N.Nodup) (he : PE X e (tDN X.K ec W fe)) (hi : X.N[i]? = some x := by rfl) (hx : Loc X.env.scope x := by first | exact Or.inl rfl | exact Or.inr rfl) (hs : swapsWith e (some (.Name x pos')) pos.line X.env = pure false := by rfl)
    (hf : X.fn x = true ∨ X.env.scope.names.lookup x = some .local := by first | exact .inl rfl | exact .inr rfl | assumption) : PS X (.Assign [.Name x pos'] e pos) (tDS X.K ec W G0 H0 (sOwn i fe)) :=
  PS_imp (ps_set (i := i) hN hi hx he hs hf) fun D σ H ⟨G, env, S, p⟩ => tDN_own S p
variable {elt tg iter : Expr} {ifs : List Expr} {scope : Scope} {own : List (Str × Nat)} {spos py : Pos} {g : TG} {gd : GE} {fi : LF} {tt : TF} {te : EF} {vs : List Nat}
/-- name = [..] on one line, the name a local -/
theorem ss_ownLc (tk : TgOk X.K vs g gd) (hv : own.map (·.2) = vs) (hc : X.calm = true) (hN : X.N.Nodup) (hi : PI X tg iter (tDI X.K ec W fi)) (ok : BlkOk X.N X.env.scope scope own)
    (hg : ∀ (s : Shared) (H : Hp) (C : Addr) (cl : List (Str × Addr)) (fp : List Addr), PG (X.blk s H scope (compEnvC scope cl C X.env) fp) tg g) (ht : ∀ (s : Shared) (H : Hp) (C : Addr) (cl : List (Str × Addr)) (fp : List Addr), PTs (X.blk s H scope (compEnvC scope cl C X.env) fp) ifs (tDT X.K ec WNo tt))
    (he : ∀ (s : Shared) (H : Hp) (C : Addr) (cl : List (Str × Addr)) (fp : List Addr), PE (X.blk s H scope (compEnvC scope cl C X.env) fp) elt (tD X.K ec WNo te))
    (hy : X.N[i]? = some x := by rfl) (hyl : X.env.scope.names.lookup x = some .local := by rfl) (hsw : swapsWith (.ListComp elt [⟨tg, iter, ifs, 0⟩] scope pos) (some (.Name x py)) spos.line X.env = pure true := by exact sw_true rfl rfl rfl (by decide +kernel)) (hs : ∀ x, foldedSetIterable iter X.env x = pure x := by intro _; rfl) :
    PS X (.Assign [.Name x py] (.ListComp elt [⟨tg, iter, ifs, 0⟩] scope pos) spos) (tDS X.K ec W G0 H0 (sOwn i (eLc gd fi tt te))) :=
  PS_imp (ps_setLc (i := i) hc hN hy hyl hsw hi ok hg ht he hs) fun D σ H ⟨G, env, S, p⟩ => by
    show tLc _ g _ _ _ σ H _
    rw [hv]
    exact tLc_N tk (tDN_own S p)
end

/-! ### changes of what is owned -/
noncomputable def sApp (m : Md) (i : Nat) (f : EF) (env : Ev) : Out := match env[i]? with
  | some (.ow (.list ds)) => (evM m f env).out fun d => if ds.length < szl then .nx (env.set i (.ow (.list (ds ++ [d])))) else .no
  | _ => .no
noncomputable def sExt (m : Md) (i : Nat) (f : EF) (env : Ev) : Out := match env[i]? with
  | some (.ow (.list ds)) => (evM m f env).out fun d => match d with
    | .list es => if ds.length + es.length ≤ szl then .nx (env.set i (.ow (.list (ds ++ es)))) else .no
    | _ => .no
  | _ => .no
/-- xs[k] = v: the value first -/
def sPut (mv mk : Md) (i : Nat) (fv fk : EF) (env : Ev) : Out := match env[i]? with
  | some (.ow (.list ds)) => (evM mv fv env).out fun d => (evM mk fk env).out fun k => match k with
    | .int j => match ixN ds.length j with
      | some n => .nx (env.set i (.ow (.list (ds.set n d))))
      | none => .no
    | _ => .no
  | _ => .no
section
variable {X : Cx}
def rExtendR (K : PySem.W.Frag) : V → List V → Hp → VK → Prop := fun x vs H Q => ∃ l b xs zs, x = .ref l ∧ vs = [.ref b] ∧ H l = some (.lst xs) ∧ LsL K H b zs ∧ xs.length + zs.length ≤ sizeLine ∧ Q .non (upd H l (.lst (xs ++ zs)))
theorem mt_extendR : MtM X "list.extend" (rExtendR X.K) := fun pins s σ H x vs v us Q I rx rv ⟨l, b, xs, zs, ex, ev, hl, hb, hz, q⟩ => by
  subst ex ev
  obtain rfl : v = Value.ref l := rx
  obtain rfl : us = [Value.ref b] := rv.ref1
  obtain ⟨is, n, r1, l1, _, o1⟩ := ls_obj I (.of hl)
  obtain ⟨js, m, r2, l2, f2, o2⟩ := ls_obj I hb
  have fit : is.toArray.size + js.toArray.size ≤ sizeLine := by simp only [List.size_toArray, l1, l2]; exact hz
  have short : ¬ (!is.toArray.isEmpty && Builtin.List.listTooLong (is.toArray.size + js.toArray.size)) = true := by rw [notLongL fit, Bool.and_false]; exact Bool.false_ne_true
  have inner := AutoSeq1.list_extend_list_list_0 l is.toArray n b js.toArray m short (by omega) (by omega)
  have long : (xs ++ zs).length ≤ sizeLine := by simp only [List.length_append]; exact hz
  exact call_meets F.slot_list_extend ⟨_, o1, rfl⟩ F.entry_list_extend (F.args_list_extend_2 _ _) inner ⟨o1, o2, ⟨.non, _, I.lset (its' := is ++ js) hl o1 (by simp) (r1.append r2) long, rfl, q⟩⟩
end
section
variable {X : Cx} {ec : Nat → Addr} {W : WX} {G0 H0 : Hp} {e k : Expr} {fe fk : EF} {p apos cpos pos tpos : Pos} {i : Nat} {x : Str}
theorem ss_app (m : Md) (he : PE X e (tD X.K ec W fe)) (hi : X.N[i]? = some x := by rfl) (hv : Vis X.env.scope x := by first | exact Or.inl rfl | exact Or.inr (Or.inl rfl) | exact Or.inr (Or.inr rfl)) (hd : (x == ("__debug__" : Str)) = false := by decide) (hcd : (x == ("__classdict__" : Str)) = false := by decide)
    (hfew : ((backTo cpos (starEach [e] X.env)).all (fun x => !x.1) && (backToKw cpos (keywordEach [] X.env)).all (fun x => x.1.isSome)
      && decide (([e] : List Expr).length + ([] : List Keyword).length + (if ([] : List Keyword).isEmpty then 0 else 1) < 30)) = true := by rfl)
    (hline : (apos.endLine == cpos.line) = true := by rfl) (hs : starEach [e] X.env = (false, eval e X.env) :: starEach [] X.env := by rfl) :
    PS X (.Expr (.Call (.Attribute (.Name x p) "append" apos) [e] [] cpos) pos) (tDS X.K ec W G0 H0 (sApp m i fe)) := by
  refine PS_imp (ps_expr (pe_bm PySem.F.plainAttrs_list PySem.F.slot_list_append PySem.F.type_list_append mt_append (pe_var hi hv hd hcd) (pa_cons he pa_nil hs) rfl hfew hline hs rfl)) fun D σ H ⟨G, env, S, p⟩ => ?_
  unfold sApp at p
  split at p
  · rename_i ds q
    obtain ⟨l, h1, h2, h3, vs, h4, h5⟩ := S.ow i _ q
    refine ⟨_, h1, .inl ⟨rfl, vs, SqL.of h4⟩, tD_M (m := m) S (PostE.out p fun v d G' H' _ g S' r p' => ?_)⟩
    obtain ⟨l', h1', h2', h3', vs', h4', h5'⟩ := S'.ow i _ q
    rw [h1] at h1'
    cases h1'
    split at p'
    · rename_i hz
      refine ⟨l, vs', v, rfl, rfl, h4', Nat.lt_of_lt_of_le (by rw [h5'.length]; exact hz) (szl_line (Nat.le_refl _)), ?_⟩
      exact p' σ G' _ (Same.refl _) (S'.mut q h1 ⟨_, upd_same, h5'.append (.cons r .nil)⟩)
    · exact p'.elim
  · exact p.elim
theorem ss_ext (m : Md) (he : PE X e (tD X.K ec W fe)) (hi : X.N[i]? = some x := by rfl) (hv : Vis X.env.scope x := by first | exact Or.inl rfl | exact Or.inr (Or.inl rfl) | exact Or.inr (Or.inr rfl)) (hd : (x == ("__debug__" : Str)) = false := by decide) (hcd : (x == ("__classdict__" : Str)) = false := by decide)
    (hfew : ((backTo cpos (starEach [e] X.env)).all (fun x => !x.1) && (backToKw cpos (keywordEach [] X.env)).all (fun x => x.1.isSome)
      && decide (([e] : List Expr).length + ([] : List Keyword).length + (if ([] : List Keyword).isEmpty then 0 else 1) < 30)) = true := by rfl)
    (hline : (apos.endLine == cpos.line) = true := by rfl) (hs : starEach [e] X.env = (false, eval e X.env) :: starEach [] X.env := by rfl) :
    PS X (.Expr (.Call (.Attribute (.Name x p) "extend" apos) [e] [] cpos) pos) (tDS X.K ec W G0 H0 (sExt m i fe)) := by
  refine PS_imp (ps_expr (pe_bm PySem.F.plainAttrs_list PySem.F.slot_list_extend PySem.F.type_list_extend mt_extendR (pe_var hi hv hd hcd) (pa_cons he pa_nil hs) rfl hfew hline hs rfl)) fun D σ H ⟨G, env, S, p⟩ => ?_
  unfold sExt at p
  split at p
  · rename_i ds q
    obtain ⟨l, h1, h2, h3, vs, h4, h5⟩ := S.ow i _ q
    refine ⟨_, h1, .inl ⟨rfl, vs, SqL.of h4⟩, tD_M (m := m) S (PostE.out p fun v d G' H' _ g S' r p' => ?_)⟩
    obtain ⟨l', h1', h2', h3', vs', h4', h5'⟩ := S'.ow i _ q
    rw [h1] at h1'
    cases h1'
    cases r with
    | @lst b zs es hb rz =>
      dsimp only at p'
      split at p'
      · rename_i hz
        refine ⟨l, b, vs', zs, rfl, rfl, h4', ls_same S'.x.i hb, szl_line (by rw [h5'.length, rz.length]; exact hz), ?_⟩
        exact p' σ G' _ (Same.refl _) (S'.mut q h1 ⟨_, upd_same, h5'.append rz⟩)
      · exact p'.elim
    | _ => exact p'.elim
  · exact p.elim
theorem ss_put (mv mk : Md) (he : PE X e (tD X.K ec W fe)) (hk : PE X k (tD X.K ec W fk)) (hi : X.N[i]? = some x := by rfl) (hv : Vis X.env.scope x := by first | exact Or.inl rfl | exact Or.inr (Or.inl rfl) | exact Or.inr (Or.inr rfl)) (hd : (x == ("__debug__" : Str)) = false := by decide) (hcd : (x == ("__classdict__" : Str)) = false := by decide)
    (ha : ∀ v, assign (.Subscript (.Name x p) k tpos) X.env v = (do
      let ov ← holding [v] (eval (.Name x p) X.env)
      let iv ← holding [v, ov] (eval k X.env)
      standAt tpos
      holding [v, ov, iv] (setItem ov iv v)
      release [v, ov, iv] []) := by intro _; rfl) (hs : swapsWithSole [.Subscript (.Name x p) k tpos] e pos.line X.env = pure false := by rfl) (hw : swappedStores [.Subscript (.Name x p) k tpos] e X.env = pure none := by rfl)
    (h1 : (assignEach [.Subscript (.Name x p) k tpos] X.env).map (·.2) = [assign (.Subscript (.Name x p) k tpos) X.env] := by rfl) :
    PS X (.Assign [.Subscript (.Name x p) k tpos] e pos) (tDS X.K ec W G0 H0 (sPut mv mk i fe fk)) := by
  refine PS_imp (ps_asg he (pg_sub (pe_var hi hv hd hcd) hk set_list ha) hs hw h1) fun D σ H ⟨G, env, S, p⟩ => ?_
  unfold sPut at p
  split at p
  · rename_i ds q
    refine tD_M (m := mv) S (PostE.out p fun v d G1 H1 _ g1 S1 r1 p1 => ?_)
    obtain ⟨l, a1, a2, a3, vs, a4, a5⟩ := S1.ow i _ q
    refine ⟨_, a1, tD_M (m := mk) S1 (PostE.out p1 fun kv kd G2 H2 _ g2 S2 r2 p2 => ?_)⟩
    obtain ⟨l', b1, b2, b3, vs', b4, b5⟩ := S2.ow i _ q
    rw [a1] at b1
    cases b1
    cases r2 with
    | int j =>
      dsimp only at p2
      split at p2
      · rename_i n hn
        refine ⟨l, vs', j, n, rfl, rfl, b4, by rw [b5.length]; exact hn, ?_⟩
        exact p2 σ G2 _ (Same.refl _) (S2.mut q a1 ⟨_, upd_same, b5.set (r1.mono g2) n⟩)
      · exact p2.elim
    | _ => exact p2.elim
  · exact p.elim
end
end PL
/-! PL, part g: built-ins, dicts. -/
namespace PL
open PySem PySem.Spec PyProof.Rows L2

/-! ### built-ins -/
noncomputable def gLen : List PyData → R PyData
  | [.list ds] => .ok (.int ds.length)
  | [.tuple ds] => .ok (.int ds.length)
  | [.str z] => if z.length ≤ szl then .ok (.int z.length) else .no
  | _ => .no
def gAbs : List PyData → R PyData
  | [.int i] => .ok (.int (if i < 0 then -i else i))
  | _ => .no
def gMax2 : List PyData → R PyData
  | [.int i, .int j] => .ok (.int (if j > i then j else i))
  | _ => .no
def gMin2 : List PyData → R PyData
  | [.int i, .int j] => .ok (.int (if j < i then j else i))
  | _ => .no
def gInt : List PyData → R PyData
  | [.int i] => .ok (.int i)
  | [.bool b] => .ok (.int (if b then 1 else 0))
  | _ => .no
def intsOf : List PyData → Option (List Int)
  | [] => some []
  | .int i :: r => (intsOf r).map (i :: ·)
  | _ :: _ => none
def boolsOf : List PyData → Option (List Bool)
  | [] => some []
  | .bool i :: r => (boolsOf r).map (i :: ·)
  | _ :: _ => none
theorem intsOf_eq : ∀ {ds : List PyData} {ns : List Int}, intsOf ds = some ns → ds = ns.map PyData.int
  | [], _, h => by cases h; rfl
  | d :: r, ns, h => by
    cases d with
    | int i =>
      unfold intsOf at h
      cases q : intsOf r with
      | none => rw [q] at h; cases h
      | some ms => rw [q] at h; cases h; rw [intsOf_eq q]; rfl
    | _ => cases h
theorem boolsOf_eq : ∀ {ds : List PyData} {ns : List Bool}, boolsOf ds = some ns → ds = ns.map PyData.bool
  | [], _, h => by cases h; rfl
  | d :: r, ns, h => by
    cases d with
    | bool i =>
      unfold boolsOf at h
      cases q : boolsOf r with
      | none => rw [q] at h; cases h
      | some ms => rw [q] at h; cases h; rw [boolsOf_eq q]; rfl
    | _ => cases h
theorem intsOf_map (ns : List Int) : intsOf (ns.map PyData.int) = some ns := by
  induction ns with
  | nil => rfl
  | cons n ns ih => simp [intsOf, ih]
theorem boolsOf_map (ns : List Bool) : boolsOf (ns.map PyData.bool) = some ns := by
  induction ns with
  | nil => rfl
  | cons n ns ih => simp [boolsOf, ih]
def gSum : List PyData → R PyData
  | [.list ds] => match intsOf ds with
    | some ns => .ok (.int ns.sum)
    | none => .no
  | _ => .no
/-- the greatest, the least of a list that isn't empty -/
def maxL : List Int → Int
  | [] => 0
  | [x] => x
  | x :: r => max x (maxL r)
def minL : List Int → Int
  | [] => 0
  | [x] => x
  | x :: r => min x (minL r)
theorem maxL_mem : ∀ {xs : List Int}, xs ≠ [] → maxL xs ∈ xs ∧ ∀ y ∈ xs, y ≤ maxL xs
  | [x], _ => by simp [maxL]
  | x :: y :: r, _ => by
    obtain ⟨h1, h2⟩ := maxL_mem (xs := y :: r) (by simp)
    have e : maxL (x :: y :: r) = max x (maxL (y :: r)) := rfl
    refine ⟨?_, fun z hz => ?_⟩
    · rw [e]
      by_cases h : x ≤ maxL (y :: r)
      · rw [Int.max_eq_right h]; exact List.mem_cons_of_mem _ h1
      · rw [Int.max_eq_left (by omega)]; exact List.mem_cons_self
    · rw [e]
      rcases List.mem_cons.mp hz with rfl | hz
      · omega
      · have := h2 z hz; omega
theorem minL_mem : ∀ {xs : List Int}, xs ≠ [] → minL xs ∈ xs ∧ ∀ y ∈ xs, minL xs ≤ y
  | [x], _ => by simp [minL]
  | x :: y :: r, _ => by
    obtain ⟨h1, h2⟩ := minL_mem (xs := y :: r) (by simp)
    have e : minL (x :: y :: r) = min x (minL (y :: r)) := rfl
    refine ⟨?_, fun z hz => ?_⟩
    · rw [e]
      by_cases h : x ≤ minL (y :: r)
      · rw [Int.min_eq_left h]; exact List.mem_cons_self
      · rw [Int.min_eq_right (by omega)]; exact List.mem_cons_of_mem _ h1
    · rw [e]
      rcases List.mem_cons.mp hz with rfl | hz
      · omega
      · have := h2 z hz; omega
def gMaxL : List PyData → R PyData
  | [.list ds] => match intsOf ds with
    | some (n :: ns) => .ok (.int (maxL (n :: ns)))
    | _ => .no
  | _ => .no
def gMinL : List PyData → R PyData
  | [.list ds] => match intsOf ds with
    | some (n :: ns) => .ok (.int (minL (n :: ns)))
    | _ => .no
  | _ => .no
def gAll : List PyData → R PyData
  | [.list ds] => match boolsOf ds with
    | some bs => .ok (.bool (bs.all id))
    | none => .no
  | _ => .no
def gAny : List PyData → R PyData
  | [.list ds] => match boolsOf ds with
    | some bs => .ok (.bool (bs.any id))
    | none => .no
  | _ => .no
def gTuple : List PyData → R PyData
  | [.list ds] => .ok (.tuple ds)
  | [.tuple ds] => .ok (.tuple ds)
  | _ => .no
def gList : List PyData → R PyData
  | [.list ds] => .ok (.list ds)
  | [.tuple ds] => .ok (.list ds)
  | _ => .no
section
variable {X : Cx} {K : PySem.W.Frag}
theorem cd_len : CallD K (fun xs H Q => ∃ x n, xs = [x] ∧ LenV K x H n ∧ Q (.int n) H) gLen := by
  intro vs ds d G H Q i r h q
  unfold gLen at h
  split at h
  · cases h
    cases r with
    | cons a b =>
      cases b
      cases a with
      | @lst l xs _ hl r => exact ⟨_, xs.length, rfl, .inl ⟨xs, (ls_same i hl).sq, rfl⟩, by rw [r.length]; exact q _ G H (Ext.refl i) (.int _)⟩
  · cases h
    cases r with
    | cons a b =>
      cases b
      cases a with
      | @tup l xs _ hl r => exact ⟨_, xs.length, rfl, .inr ⟨xs, sqT_same i hl, rfl⟩, by rw [r.length]; exact q _ G H (Ext.refl i) (.int _)⟩
  · split at h
    · rename_i hz
      cases h
      cases r with
      | cons a b =>
        cases b
        cases a
        exact ⟨_, _, rfl, ⟨szl_line hz, rfl⟩, q _ G H (Ext.refl i) (.int _)⟩
    · cases h
  · cases h
theorem cd_abs : CallD K (fun xs H Q => ∃ i, xs = [.int i] ∧ Q (.int (if i < 0 then -i else i)) H) gAbs := by
  intro vs ds d G H Q i r h q
  unfold gAbs at h
  split at h
  · cases h
    cases r with
    | cons a b =>
      cases b
      cases a
      exact ⟨_, rfl, q _ G H (Ext.refl i) (.int _)⟩
  · cases h
theorem cd_max2 : CallD K (fun xs H Q => ∃ i j, xs = [.int i, .int j] ∧ Q (.int (if j > i then j else i)) H) gMax2 := by
  intro vs ds d G H Q i r h q
  unfold gMax2 at h
  split at h
  · cases h
    cases r with
    | cons a b =>
      cases b with
      | cons b c =>
        cases c
        cases a
        cases b
        exact ⟨_, _, rfl, q _ G H (Ext.refl i) (.int _)⟩
  · cases h
theorem cd_min2 : CallD K (fun xs H Q => ∃ i j, xs = [.int i, .int j] ∧ Q (.int (if j < i then j else i)) H) gMin2 := by
  intro vs ds d G H Q i r h q
  unfold gMin2 at h
  split at h
  · cases h
    cases r with
    | cons a b =>
      cases b with
      | cons b c =>
        cases c
        cases a
        cases b
        exact ⟨_, _, rfl, q _ G H (Ext.refl i) (.int _)⟩
  · cases h
theorem cd_int : CallD K (fun xs H Q => (∃ i, xs = [.int i] ∧ Q (.int i) H) ∨ ∃ k, xs = [.bl k] ∧ Q (.int (if k then 1 else 0)) H) gInt := by
  intro vs ds d G H Q i r h q
  unfold gInt at h
  split at h
  · cases h
    cases r with
    | cons a b =>
      cases b
      cases a
      exact .inl ⟨_, rfl, q _ G H (Ext.refl i) (.int _)⟩
  · cases h
    cases r with
    | cons a b =>
      cases b
      cases a
      exact .inr ⟨_, rfl, q _ G H (Ext.refl i) (.int _)⟩
  · cases h
theorem ints_rd {G H : Hp} {v : V} {ds : List PyData} {ns : List Int} (i : Same G H) (r : Rep K G v (.list ds)) (e : intsOf ds = some ns) : ∃ a, v = .ref a ∧ SqL K H a (ns.map V.int) := by
  cases r with
  | @lst l xs _ hl r =>
    rw [intsOf_eq e] at r
    have := r.ints
    subst this
    exact ⟨l, rfl, (ls_same i hl).sq⟩
theorem bools_rd {G H : Hp} {v : V} {ds : List PyData} {ns : List Bool} (i : Same G H) (r : Rep K G v (.list ds)) (e : boolsOf ds = some ns) : ∃ a, v = .ref a ∧ SqL K H a (ns.map V.bl) := by
  cases r with
  | @lst l xs _ hl r =>
    rw [boolsOf_eq e] at r
    have := r.bls
    subst this
    exact ⟨l, rfl, (ls_same i hl).sq⟩
theorem cd_sum : CallD K (rSum K) gSum := by
  intro vs ds d G H Q i r h q
  unfold gSum at h
  split at h
  · split at h
    · rename_i ns e
      cases h
      cases r with
      | cons a b =>
        cases b
        obtain ⟨l, rfl, hs⟩ := ints_rd i a e
        exact ⟨l, ns, rfl, hs, q _ G H (Ext.refl i) (.int _)⟩
    · cases h
  · cases h
theorem cd_maxL : CallD K (rMax K) gMaxL := by
  intro vs ds d G H Q i r h q
  unfold gMaxL at h
  split at h
  · split at h
    · rename_i n ns e
      cases h
      cases r with
      | cons a b =>
        cases b
        obtain ⟨l, rfl, hs⟩ := ints_rd i a e
        refine ⟨l, n :: ns, rfl, hs, by simp, fun m hm hle => ?_⟩
        obtain ⟨h1, h2⟩ := maxL_mem (xs := n :: ns) (by simp)
        have e : m = maxL (n :: ns) := Int.le_antisymm (h2 m hm) (hle _ h1)
        rw [e]
        exact q _ G H (Ext.refl i) (.int _)
    · cases h
  · cases h
theorem cd_minL : CallD K (rMin K) gMinL := by
  intro vs ds d G H Q i r h q
  unfold gMinL at h
  split at h
  · split at h
    · rename_i n ns e
      cases h
      cases r with
      | cons a b =>
        cases b
        obtain ⟨l, rfl, hs⟩ := ints_rd i a e
        refine ⟨l, n :: ns, rfl, hs, by simp, fun m hm hle => ?_⟩
        obtain ⟨h1, h2⟩ := minL_mem (xs := n :: ns) (by simp)
        have e : m = minL (n :: ns) := Int.le_antisymm (hle _ h1) (h2 m hm)
        rw [e]
        exact q _ G H (Ext.refl i) (.int _)
    · cases h
  · cases h
theorem cd_all : CallD K (rAll K) gAll := by
  intro vs ds d G H Q i r h q
  unfold gAll at h
  split at h
  · split at h
    · rename_i ns e
      cases h
      cases r with
      | cons a b =>
        cases b
        obtain ⟨l, rfl, hs⟩ := bools_rd i a e
        exact ⟨l, ns, rfl, hs, q _ G H (Ext.refl i) (.bl _)⟩
    · cases h
  · cases h
theorem cd_any : CallD K (rAny K) gAny := by
  intro vs ds d G H Q i r h q
  unfold gAny at h
  split at h
  · split at h
    · rename_i ns e
      cases h
      cases r with
      | cons a b =>
        cases b
        obtain ⟨l, rfl, hs⟩ := bools_rd i a e
        exact ⟨l, ns, rfl, hs, q _ G H (Ext.refl i) (.bl _)⟩
    · cases h
  · cases h
theorem cd_tuple : CallD K (fun xs H Q => ∃ p ys, xs = [.ref p] ∧ ((SqL K H p ys ∧ ∀ l, H l = none → Q (.ref l) (upd H l (.tup ys))) ∨ (SqT K H p ys ∧ Q (.ref p) H))) gTuple := by
  intro vs ds d G H Q i r h q
  unfold gTuple at h
  split at h
  · cases h
    cases r with
    | cons a b =>
      cases b
      cases a with
      | @lst l xs _ hl r => exact ⟨l, xs, rfl, .inl ⟨(ls_same i hl).sq, fun p n => q _ _ _ (Ext.new i n) (ext_tup i n r)⟩⟩
  · cases h
    cases r with
    | cons a b =>
      cases b
      cases a with
      | @tup l xs _ hl r => exact ⟨l, xs, rfl, .inr ⟨sqT_same i hl, q _ G H (Ext.refl i) (.tup hl r)⟩⟩
  · cases h
theorem cd_list : CallD K (fun xs H Q => ∃ p ys, xs = [.ref p] ∧ (SqL K H p ys ∨ SqT K H p ys) ∧ ∀ l, H l = none → Q (.ref l) (upd H l (.lst ys))) gList := by
  intro vs ds d G H Q i r h q
  unfold gList at h
  split at h
  · cases h
    cases r with
    | cons a b =>
      cases b
      cases a with
      | @lst l xs _ hl r => exact ⟨l, xs, rfl, .inl ((ls_same i hl).sq), fun p n => q _ _ _ (Ext.new i n) (ext_list i n r)⟩
  · cases h
    cases r with
    | cons a b =>
      cases b
      cases a with
      | @tup l xs _ hl r => exact ⟨l, xs, rfl, .inr (sqT_same i hl), fun p n => q _ _ _ (Ext.new i n) (ext_list i n r)⟩
  · cases h
theorem xl_len : NoExL gLen := by
  intro x c h
  unfold gLen at h
  split at h
  · cases h
  · cases h
  · split at h <;> cases h
  · cases h
theorem xl_abs : NoExL gAbs := by
  intro x c h
  unfold gAbs at h
  split at h <;> cases h
theorem xl_max2 : NoExL gMax2 := by
  intro x c h
  unfold gMax2 at h
  split at h <;> cases h
theorem xl_min2 : NoExL gMin2 := by
  intro x c h
  unfold gMin2 at h
  split at h <;> cases h
theorem xl_int : NoExL gInt := by
  intro x c h
  unfold gInt at h
  split at h <;> cases h
theorem xl_sum : NoExL gSum := by
  intro x c h
  unfold gSum at h
  split at h
  · split at h <;> cases h
  · cases h
theorem xl_maxL : NoExL gMaxL := by
  intro x c h
  unfold gMaxL at h
  split at h
  · split at h <;> cases h
  · cases h
theorem xl_minL : NoExL gMinL := by
  intro x c h
  unfold gMinL at h
  split at h
  · split at h <;> cases h
  · cases h
theorem xl_all : NoExL gAll := by
  intro x c h
  unfold gAll at h
  split at h
  · split at h <;> cases h
  · cases h
theorem xl_any : NoExL gAny := by
  intro x c h
  unfold gAny at h
  split at h
  · split at h <;> cases h
  · cases h
theorem xl_tuple : NoExL gTuple := by
  intro x c h
  unfold gTuple at h
  split at h <;> cases h
theorem xl_list : NoExL gList := by
  intro x c h
  unfold gList at h
  split at h <;> cases h
end
section
variable {X : Cx} {ec : Nat → Addr} {W : WX} {e e2 : Expr} {fs : List EF} {f : EF} {p q pos : Pos}
theorem se_len (hg : Gl X "len") (hm : X.mg "len" = none) (ha : PA X [e] (tDA X.K ec W fs)) (he : starEach [e] X.env = (false, eval e X.env) :: starEach [] X.env := by rfl) : PE X (.Call (.Name "len" p) [e] [] pos) (tD X.K ec W (eCall gLen fs)) := se_callB call_len cd_len xl_len hg hm boot_len ha (he := he) (hpl := rfl)
theorem se_abs (hg : Gl X "abs") (hm : X.mg "abs" = none) (ha : PA X [e] (tDA X.K ec W fs)) (he : starEach [e] X.env = (false, eval e X.env) :: starEach [] X.env := by rfl) : PE X (.Call (.Name "abs" p) [e] [] pos) (tD X.K ec W (eCall gAbs fs)) := se_callB call_abs cd_abs xl_abs hg hm (by decide +kernel) ha (he := he) (hpl := rfl)
theorem se_max2 (hc : X.calm = true) (hg : Gl X "max") (hm : X.mg "max" = none) (ha : PA X [e, e2] (tDA X.K ec W fs)) (he : starEach [e, e2] X.env = (false, eval e X.env) :: starEach [e2] X.env := by rfl) (hpl : (backTo pos (starEach [e2] X.env)).any (·.1) = false := by rfl) : PE X (.Call (.Name "max" p) [e, e2] [] pos) (tD X.K ec W (eCall gMax2 fs)) := se_callB (call_max2 hc) cd_max2 xl_max2 hg hm (by decide +kernel) ha (he := he) (hpl := hpl)
theorem se_min2 (hc : X.calm = true) (hg : Gl X "min") (hm : X.mg "min" = none) (ha : PA X [e, e2] (tDA X.K ec W fs)) (he : starEach [e, e2] X.env = (false, eval e X.env) :: starEach [e2] X.env := by rfl) (hpl : (backTo pos (starEach [e2] X.env)).any (·.1) = false := by rfl) : PE X (.Call (.Name "min" p) [e, e2] [] pos) (tD X.K ec W (eCall gMin2 fs)) := se_callB (call_min2 hc) cd_min2 xl_min2 hg hm (by decide +kernel) ha (he := he) (hpl := hpl)
theorem se_intc (hg : Gl X "int") (hm : X.mg "int" = none) (ha : PA X [e] (tDA X.K ec W fs)) (he : starEach [e] X.env = (false, eval e X.env) :: starEach [] X.env := by rfl) : PE X (.Call (.Name "int" p) [e] [] pos) (tD X.K ec W (eCall gInt fs)) := se_callTy call_int1 cd_int xl_int hg hm (by decide +kernel) ha (he := he) (hpl := rfl)
theorem se_sum (hc : X.calm = true) (hg : Gl X "sum") (hm : X.mg "sum" = none) (ha : PA X [e] (tDA X.K ec W fs)) (he : starEach [e] X.env = (false, eval e X.env) :: starEach [] X.env := by rfl) : PE X (.Call (.Name "sum" p) [e] [] pos) (tD X.K ec W (eCall gSum fs)) := se_callB (cr_sum hc) cd_sum xl_sum hg hm (by decide +kernel) ha (he := he) (hpl := rfl)
theorem se_maxL (hc : X.calm = true) (hg : Gl X "max") (hm : X.mg "max" = none) (ha : PA X [e] (tDA X.K ec W fs)) (he : starEach [e] X.env = (false, eval e X.env) :: starEach [] X.env := by rfl) : PE X (.Call (.Name "max" p) [e] [] pos) (tD X.K ec W (eCall gMaxL fs)) := se_callB (cr_max hc) cd_maxL xl_maxL hg hm (by decide +kernel) ha (he := he) (hpl := rfl)
theorem se_minL (hc : X.calm = true) (hg : Gl X "min") (hm : X.mg "min" = none) (ha : PA X [e] (tDA X.K ec W fs)) (he : starEach [e] X.env = (false, eval e X.env) :: starEach [] X.env := by rfl) : PE X (.Call (.Name "min" p) [e] [] pos) (tD X.K ec W (eCall gMinL fs)) := se_callB (cr_min hc) cd_minL xl_minL hg hm (by decide +kernel) ha (he := he) (hpl := rfl)
theorem se_all (hc : X.calm = true) (hg : Gl X "all") (hm : X.mg "all" = none) (ha : PA X [e] (tDA X.K ec W fs)) (he : starEach [e] X.env = (false, eval e X.env) :: starEach [] X.env := by rfl) : PE X (.Call (.Name "all" p) [e] [] pos) (tD X.K ec W (eCall gAll fs)) := se_callB (cr_all hc) cd_all xl_all hg hm (by decide +kernel) ha (he := he) (hpl := rfl)
theorem se_any (hc : X.calm = true) (hg : Gl X "any") (hm : X.mg "any" = none) (ha : PA X [e] (tDA X.K ec W fs)) (he : starEach [e] X.env = (false, eval e X.env) :: starEach [] X.env := by rfl) : PE X (.Call (.Name "any" p) [e] [] pos) (tD X.K ec W (eCall gAny fs)) := se_callB (cr_any hc) cd_any xl_any hg hm (by decide +kernel) ha (he := he) (hpl := rfl)
theorem se_tuple (hg : Gl X "tuple") (hm : X.mg "tuple" = none) (ha : PA X [e] (tDA X.K ec W fs)) (he : starEach [e] X.env = (false, eval e X.env) :: starEach [] X.env := by rfl) : PE X (.Call (.Name "tuple" p) [e] [] pos) (tD X.K ec W (eCall gTuple fs)) := se_callTy call_tuple_of cd_tuple xl_tuple hg hm (by decide +kernel) ha (he := he) (hpl := rfl)
theorem se_list (hg : Gl X "list") (hm : X.mg "list" = none) (ha : PA X [e] (tDA X.K ec W fs)) (he : starEach [e] X.env = (false, eval e X.env) :: starEach [] X.env := by rfl) : PE X (.Call (.Name "list" p) [e] [] pos) (tD X.K ec W (eCall gList fs)) := se_callTy call_list_of cd_list xl_list hg hm (by decide +kernel) ha (he := he) (hpl := rfl)
end

/-! ### isinstance of a built-in type -/
def tyN : PyData → String
  | .none => "NoneType"
  | .bool _ => "bool"
  | .int _ => "int"
  | .str _ => "str"
  | .list _ => "list"
  | .tuple _ => "tuple"
  | .dict _ => "dict"
def dIsi (T : String) (d : PyData) : R PyData := match kitB (tyN d) T with
  | some b => .ok (.bool b)
  | none => .no
theorem tyX_of {K : PySem.W.Frag} {G H : Hp} {v : V} {d : PyData} (i : Same G H) (r : Rep K G v d) : TyX K H v (.type (tyN d)) := by
  cases r with
  | non => exact .base .non
  | bl b => exact .base (.bl b)
  | int b => exact .base (.int b)
  | str b => exact .base (.str b)
  | lst h _ =>
    rcases h with (h | ⟨o, h⟩) | ⟨its, n, h1, _⟩
    · exact .base (.lst (i.ap _ _ h fun _ z => by cases z))
    · exact .base (.frz (i.ap _ _ h fun _ z => by cases z))
    · exact .kList h1 rfl
  | tup h _ =>
    rcases h with (h | ⟨o, h⟩) | ⟨o, its, n, h1, h2, h3⟩
    · exact .base (.tup (i.ap _ _ h fun _ z => by cases z))
    · exact .fTuple (i.ap _ _ h fun _ z => by cases z)
    · exact .kTuple h1 h2
  | dct h _ _ => exact .base (.dK (i.ap _ _ h fun _ z => by cases z))
section
variable {X : Cx} {ec : Nat → Addr} {W : WX} {e : Expr} {f : EF} {p q pos : Pos} {T : String} {x : Str}
theorem se_isi (hg : Gl X "isinstance") (hm : X.mg "isinstance" = none) (ha : PE X e (tD X.K ec W f)) (hgT : Gl X x) (hmT : X.mg x = none) (hT : bootBuiltins x = some (.type T)) (hnT : x ≠ "__name__" := by decide) (hdT : (x == ("__debug__" : Str)) = false := by decide)
    (he : starEach [e, .Name x q] X.env = (false, eval e X.env) :: starEach [.Name x q] X.env := by rfl) : PE X (.Call (.Name "isinstance" p) [e, .Name x q] [] pos) (tD X.K ec W (eUn (dIsi T) f)) := by
  refine PE_imp (pe_callB (t := tCons (tD X.K ec W f) (tCons (tC (.ty T)) tNil)) call_isi hg hm (by decide +kernel) (pa_cons ha (pa_cons (pe_bltn (v := .ty T) hgT hmT hT rfl hnT hdT) pa_nil rfl) he) (by decide) (by decide) he rfl) fun σ H Q ⟨G, env, s, E, p⟩ => ?_
  refine ⟨G, env, s, E, Post.bind p fun v d G1 H1 _ e1 r1 p1 => ?_⟩
  unfold dIsi at p1
  split at p1
  · rename_i b hb
    exact ⟨v, .ty T, .type (tyN d), .type T, b, rfl, .ty T, tyX_of e1.i r1, kit_ty hb, p1 _ G1 H1 (Ext.refl e1.i) (.bl _)⟩
  · exact p1.elim
end
theorem dIsi_of {T : String} {d : PyData} {b : Bool} (h : kitB (tyN d) T = some b) : dIsi T d = .ok (.bool b) := by unfold dIsi; rw [h]
def is_int : PyData → Bool
  | .int _ => true
  | .bool _ => true
  | _ => false
theorem isi_int (d : PyData) : dIsi "int" d = .ok (.bool (is_int d)) := by
  cases d with
  | none => exact dIsi_of (b := false) (show kitB "NoneType" "int" = some false by decide +kernel)
  | bool x => exact dIsi_of (b := true) (show kitB "bool" "int" = some true by decide +kernel)
  | int x => exact dIsi_of (b := true) (show kitB "int" "int" = some true by decide +kernel)
  | str x => exact dIsi_of (b := false) (show kitB "str" "int" = some false by decide +kernel)
  | list x => exact dIsi_of (b := false) (show kitB "list" "int" = some false by decide +kernel)
  | tuple x => exact dIsi_of (b := false) (show kitB "tuple" "int" = some false by decide +kernel)
  | dict x => exact dIsi_of (b := false) (show kitB "dict" "int" = some false by decide +kernel)
def is_bool : PyData → Bool
  | .bool _ => true
  | _ => false
theorem isi_bool (d : PyData) : dIsi "bool" d = .ok (.bool (is_bool d)) := by
  cases d with
  | none => exact dIsi_of (b := false) (show kitB "NoneType" "bool" = some false by decide +kernel)
  | bool x => exact dIsi_of (b := true) (show kitB "bool" "bool" = some true by decide +kernel)
  | int x => exact dIsi_of (b := false) (show kitB "int" "bool" = some false by decide +kernel)
  | str x => exact dIsi_of (b := false) (show kitB "str" "bool" = some false by decide +kernel)
  | list x => exact dIsi_of (b := false) (show kitB "list" "bool" = some false by decide +kernel)
  | tuple x => exact dIsi_of (b := false) (show kitB "tuple" "bool" = some false by decide +kernel)
  | dict x => exact dIsi_of (b := false) (show kitB "dict" "bool" = some false by decide +kernel)
def is_str : PyData → Bool
  | .str _ => true
  | _ => false
theorem isi_str (d : PyData) : dIsi "str" d = .ok (.bool (is_str d)) := by
  cases d with
  | none => exact dIsi_of (b := false) (show kitB "NoneType" "str" = some false by decide +kernel)
  | bool x => exact dIsi_of (b := false) (show kitB "bool" "str" = some false by decide +kernel)
  | int x => exact dIsi_of (b := false) (show kitB "int" "str" = some false by decide +kernel)
  | str x => exact dIsi_of (b := true) (show kitB "str" "str" = some true by decide +kernel)
  | list x => exact dIsi_of (b := false) (show kitB "list" "str" = some false by decide +kernel)
  | tuple x => exact dIsi_of (b := false) (show kitB "tuple" "str" = some false by decide +kernel)
  | dict x => exact dIsi_of (b := false) (show kitB "dict" "str" = some false by decide +kernel)
def is_list : PyData → Bool
  | .list _ => true
  | _ => false
theorem isi_list (d : PyData) : dIsi "list" d = .ok (.bool (is_list d)) := by
  cases d with
  | none => exact dIsi_of (b := false) (show kitB "NoneType" "list" = some false by decide +kernel)
  | bool x => exact dIsi_of (b := false) (show kitB "bool" "list" = some false by decide +kernel)
  | int x => exact dIsi_of (b := false) (show kitB "int" "list" = some false by decide +kernel)
  | str x => exact dIsi_of (b := false) (show kitB "str" "list" = some false by decide +kernel)
  | list x => exact dIsi_of (b := true) (show kitB "list" "list" = some true by decide +kernel)
  | tuple x => exact dIsi_of (b := false) (show kitB "tuple" "list" = some false by decide +kernel)
  | dict x => exact dIsi_of (b := false) (show kitB "dict" "list" = some false by decide +kernel)
def is_tuple : PyData → Bool
  | .tuple _ => true
  | _ => false
theorem isi_tuple (d : PyData) : dIsi "tuple" d = .ok (.bool (is_tuple d)) := by
  cases d with
  | none => exact dIsi_of (b := false) (show kitB "NoneType" "tuple" = some false by decide +kernel)
  | bool x => exact dIsi_of (b := false) (show kitB "bool" "tuple" = some false by decide +kernel)
  | int x => exact dIsi_of (b := false) (show kitB "int" "tuple" = some false by decide +kernel)
  | str x => exact dIsi_of (b := false) (show kitB "str" "tuple" = some false by decide +kernel)
  | list x => exact dIsi_of (b := false) (show kitB "list" "tuple" = some false by decide +kernel)
  | tuple x => exact dIsi_of (b := true) (show kitB "tuple" "tuple" = some true by decide +kernel)
  | dict x => exact dIsi_of (b := false) (show kitB "dict" "tuple" = some false by decide +kernel)
def is_dict : PyData → Bool
  | .dict _ => true
  | _ => false
theorem isi_dict (d : PyData) : dIsi "dict" d = .ok (.bool (is_dict d)) := by
  cases d with
  | none => exact dIsi_of (b := false) (show kitB "NoneType" "dict" = some false by decide +kernel)
  | bool x => exact dIsi_of (b := false) (show kitB "bool" "dict" = some false by decide +kernel)
  | int x => exact dIsi_of (b := false) (show kitB "int" "dict" = some false by decide +kernel)
  | str x => exact dIsi_of (b := false) (show kitB "str" "dict" = some false by decide +kernel)
  | list x => exact dIsi_of (b := false) (show kitB "list" "dict" = some false by decide +kernel)
  | tuple x => exact dIsi_of (b := false) (show kitB "tuple" "dict" = some false by decide +kernel)
  | dict x => exact dIsi_of (b := true) (show kitB "dict" "dict" = some true by decide +kernel)

/-! ### dicts with int and text keys -/
def keyOf : PyData → Option Key
  | .int i => some (.inl i)
  | .str x => some (.inr x)
  | _ => none
theorem keyOf_kD (k : Key) : keyOf (kD k) = some k := by cases k <;> rfl
theorem keyOf_eq {d : PyData} {k : Key} (h : keyOf d = some k) : d = kD k := by
  cases d with
  | int i => cases h; rfl
  | str x => cases h; rfl
  | _ => cases h
def isK : Key → PyData → Bool
  | .inl i, .int j => decide (i = j)
  | .inr x, .str y => decide (x = y)
  | _, _ => false
theorem isK_kD (k j : Key) : isK k (kD j) = decide (j = k) := by
  cases k with
  | inl a =>
    cases j with
    | inl b => simp only [isK, kD, key_ll]; by_cases h : a = b <;> simp [h]; exact fun z => h z.symm
    | inr b => simp only [isK, kD, key_rl]
  | inr a =>
    cases j with
    | inl b => simp only [isK, kD, key_lr]
    | inr b => simp only [isK, kD, key_rr]; by_cases h : a = b <;> simp [h]; exact fun z => h z.symm
def dLook : List (PyData × PyData) → Key → Option PyData
  | [], _ => none
  | p :: r, k => if isK k p.1 = true then some p.2 else dLook r k
def dHas (kvs : List (PyData × PyData)) (k : Key) : Bool := kvs.any fun p => isK k p.1
def dPut (kvs : List (PyData × PyData)) (k : Key) (v : PyData) : List (PyData × PyData) :=
  if dHas kvs k = true then kvs.map fun p => if isK k p.1 = true then (p.1, v) else p else kvs ++ [(kD k, v)]
section
variable {K : PySem.W.Frag} {G : Hp}
theorem RepK.look : ∀ {kvs : List (Key × V)} {ds : List (PyData × PyData)} (k : Key), RepK K G kvs ds → (valV kvs k = none ∧ dLook ds k = none) ∨ ∃ v d, valV kvs k = some v ∧ dLook ds k = some d ∧ Rep K G v d
  | _, _, k, .nil => .inl ⟨rfl, rfl⟩
  | _, _, k, .cons (k := j) h r => by
    unfold dLook
    rw [isK_kD]
    by_cases e : j = k
    · rw [valV_pos e, if_pos (decide_eq_true e)]
      exact .inr ⟨_, _, rfl, rfl, h⟩
    · rw [valV_neg e, if_neg (by simp [e])]
      exact RepK.look k r
theorem RepK.has : ∀ {kvs : List (Key × V)} {ds : List (PyData × PyData)} (k : Key), RepK K G kvs ds → (kvs.any fun kv => decide (kv.1 = k)) = dHas ds k
  | _, _, k, .nil => rfl
  | _, _, k, .cons (k := j) h r => by
    unfold dHas
    rw [List.any_cons, List.any_cons, isK_kD]
    exact congrArg _ (RepK.has k r)
theorem RepK.len : ∀ {kvs : List (Key × V)} {ds : List (PyData × PyData)}, RepK K G kvs ds → kvs.length = ds.length
  | _, _, .nil => rfl
  | _, _, .cons _ r => by rw [List.length_cons, List.length_cons, RepK.len r]
theorem RepK.append : ∀ {vs ws : List (Key × V)} {ds es : List (PyData × PyData)}, RepK K G vs ds → RepK K G ws es → RepK K G (vs ++ ws) (ds ++ es)
  | _, _, _, _, .nil, s => s
  | _, _, _, _, .cons r t, s => .cons r (RepK.append t s)
theorem RepK.repl {v : V} {d : PyData} (k : Key) (h : Rep K G v d) : ∀ {kvs : List (Key × V)} {ds : List (PyData × PyData)}, RepK K G kvs ds → RepK K G (kvs.map fun kv => if kv.1 = k then (kv.1, v) else kv) (ds.map fun p => if isK k p.1 = true then (p.1, d) else p)
  | _, _, .nil => .nil
  | _, _, .cons (k := j) r t => by
    rw [List.map_cons, List.map_cons]
    dsimp only
    rw [isK_kD]
    by_cases e : j = k
    · rw [if_pos e, if_pos (decide_eq_true e)]
      exact .cons h (RepK.repl k h t)
    · rw [if_neg e, if_neg (by simp [e])]
      exact .cons r (RepK.repl k h t)
theorem RepK.put {v : V} {d : PyData} {kvs : List (Key × V)} {ds : List (PyData × PyData)} (k : Key) (h : Rep K G v d) (r : RepK K G kvs ds) : RepK K G (putK kvs k v) (dPut ds k d) := by
  unfold putK dPut
  rw [r.has k]
  split
  · exact RepK.repl k h r
  · exact r.append (.cons h .nil)
end
theorem putK_keys {kvs : List (Key × V)} {k : Key} {v : V} (n : (kvs.map (·.1)).Nodup) : ((putK kvs k v).map (·.1)).Nodup := by
  unfold putK
  split
  · have e : (kvs.map fun kv => if kv.1 = k then (kv.1, v) else kv).map (·.1) = kvs.map (·.1) := by
      rw [List.map_map]
      apply List.map_congr_left
      intro p _
      dsimp only [Function.comp]
      split <;> rfl
    rw [e]
    exact n
  · rename_i h
    rw [List.map_append, List.nodup_append]
    refine ⟨n, by simp, fun a ha b hb => ?_⟩
    rw [List.map_cons, List.map_nil, List.mem_singleton] at hb
    intro e
    subst e
    subst hb
    obtain ⟨p, hp, e⟩ := List.mem_map.mp ha
    exact h (List.any_eq_true.mpr ⟨p, hp, decide_eq_true e⟩)
def dGet2 (d k x : PyData) : R PyData := match d, keyOf k with
  | .dict kvs, some kk => .ok ((dLook kvs kk).getD x)
  | _, _ => .no
def dDIx (d k : PyData) : R PyData := match d, keyOf k with
  | .dict kvs, some kk => match dLook kvs kk with
    | some v => .ok v
    | none => .no
  | _, _ => .no
def eGet2 (fd fk fx : EF) (env : List (Option PyData)) : R PyData := (fd env).bind fun d => match d with
  | .dict kvs => (fk env).bind fun k => (fx env).bind fun x => dGet2 (.dict kvs) k x
  | _ => .no
def gDict : List PyData → R PyData
  | [.dict kvs] => .ok (.dict kvs)
  | _ => .no
/-- == of two dicts of ints that are the same -/
def sameInt : PyData → PyData → Bool
  | .int i, .int j => decide (i = j)
  | _, _ => false
def sameAt (b : List (PyData × PyData)) (p : PyData × PyData) : Bool := match keyOf p.1 with
  | some k => match dLook b k with
    | some v => sameInt p.2 v
    | none => false
  | none => false
def dNeD (x y : PyData) : R PyData := match x, y with
  | .dict a, .dict b => if a.length = b.length ∧ a.all (sameAt b) = true then .ok (.bool false) else .no
  | _, _ => .no
section
variable {X : Cx} {ec : Nat → Addr} {W : WX} {e e2 e3 o : Expr} {fd fk fx f : EF} {fs : List EF} {p q pos apos cpos : Pos}
theorem kd_kv {K : PySem.W.Frag} {G : Hp} {v : V} {d : PyData} {k : Key} (r : Rep K G v d) (h : keyOf d = some k) : v = kV k := by
  cases r with
  | int i => cases h; rfl
  | str x => cases h; rfl
  | _ => cases h
theorem se_get2 (hu : X.A.units + 1 < cLine) (ho : PE X o (tD X.K ec W fd)) (he : PE X e (tD X.K ec W fk)) (hf : PE X e2 (tD X.K ec W fx)) (m : M2 X o "get" apos e e2 cpos := by exact ⟨rfl, rfl, rfl, rfl⟩) :
    PE X (.Call (.Attribute o "get" apos) [e, e2] [] cpos) (tD X.K ec W (eGet2 fd fk fx)) :=
  PE_imp (pe_dget2 hu ho he hf m) fun σ H Q ⟨G, env, s, E, p⟩ => ⟨G, env, s, E, Post.bind p fun v d G1 H1 _ e1 r1 p1 => by
    cases r1 with
    | @dct a kvs ds h n r =>
      refine ⟨a, rfl, .inl ⟨kvs, .inl (e1.i.dK h)⟩, ⟨G1, env, e1.i, E.mono e1.g, Post.bind p1 fun vk dk G2 H2 _ e2 r2 p2 => ⟨G2, env, e2.i, E.mono (e1.g.trans e2.g), Post.bind p2 fun vx dx G3 H3 _ e3 r3 p3 => ?_⟩⟩⟩
      unfold dGet2 at p3
      split at p3
      · rename_i kk hd hk
        cases hd
        have ev := kd_kv (r2.mono e3.g) hk
        subst ev
        have ha : H3 a = some (.dK kvs) := e3.i.dK (e3.g.dK (e2.g.dK h))
        refine ⟨valV kvs kk, DGet.k ha, ?_⟩
        rcases (r.mono (e2.g.trans e3.g)).look kk with ⟨h1, h2⟩ | ⟨v', d', h1, h2, h3⟩
        · rw [h1]; rw [h2] at p3; exact p3 _ G3 H3 (Ext.refl e3.i) r3
        · rw [h1]; rw [h2] at p3; exact p3 _ G3 H3 (Ext.refl e3.i) h3
      · exact p3.elim
    | _ => exact p1.elim⟩
theorem se_dat (hu : X.A.units + 1 < cLine) (ho : PE X o (tD X.K ec W fd)) (he : PE X e (tD X.K ec W fk)) (hs : NoSl e := by exact fun _ _ => rfl) : PE X (.Subscript o e pos) (tD X.K ec W (eBin dDIx fd fk)) :=
  PE_imp (pe_dget hu ho he hs) fun σ H Q ⟨G, env, s, E, p⟩ => ⟨G, env, s, E, Post.bind p fun v d G1 H1 _ e1 r1 p1 => ⟨G1, env, e1.i, E.mono e1.g, Post.bind p1 fun vk dk G2 H2 _ e2 r2 p2 => by
    cases r1 with
    | @dct a kvs ds h n r =>
      cases hk : keyOf dk with
      | none => unfold dDIx at p2; rw [hk] at p2; exact p2.elim
      | some kk =>
        have ev := kd_kv r2 hk
        subst ev
        have ha : H2 a = some (.dK kvs) := e2.i.dK (e2.g.dK h)
        unfold dDIx at p2
        rw [hk] at p2
        dsimp only at p2
        rcases (r.mono e2.g).look kk with ⟨h1, h2⟩ | ⟨v', d', h1, h2, h3⟩
        · rw [h2] at p2; exact p2.elim
        · rw [h2] at p2
          refine ⟨a, v', rfl, ?_, p2 _ G2 H2 (Ext.refl e2.i) h3⟩
          rw [← h1]
          exact DGet.k ha
    | _ => exact p2.elim⟩⟩
def rDictC : List V → Hp → VK → Prop := fun xs H Q => ∃ a kvs, xs = [.ref a] ∧ Rd H a (.dK kvs) ∧ ∀ p, H p = none → Q (.ref p) (upd H p (.dK kvs))
theorem call_dictC : CallR X (.type "dict") rDictC := by
  intro pins s σ H xs us Q I r h
  obtain ⟨a, kvs, rfl, ha, q⟩ := h
  obtain ⟨u, rfl, ru⟩ := vals1 r
  cases ru
  exact d_copyOf I ha fun p s' n I' => ⟨.ref p, _, I', rfl, q p n⟩
/-- dict(d): a copy, new -/
theorem sn_dict (hg : Gl X "dict") (hm : X.mg "dict" = none) (ha : PA X [e] (tDA X.K ec W fs)) (he : starEach [e] X.env = (false, eval e X.env) :: starEach [] X.env := by rfl) : PE X (.Call (.Name "dict" p) [e] [] pos) (tDN X.K ec W (eCall gDict fs)) :=
  PE_imp (pe_callTy call_dictC hg hm (by decide +kernel) ha (he := he) (hpl := rfl)) fun σ H Q ⟨G, env, s, E, p⟩ => ⟨G, env, s, E, PostN.bindL p fun vs ds G1 H1 q e1 r1 p1 => by
    unfold gDict at p1
    split at p1
    · cases r1 with
      | cons a b =>
        cases b
        cases a with
        | @dct a kvs ds h n r => exact ⟨a, kvs, rfl, .inl (e1.i.dK h), fun l nl => p1 l G1 _ (Ext.heap e1.i (same_new nl)) nl (e1.i.free nl) ⟨kvs, upd_same, n, r⟩⟩
    · exact p1.elim⟩
theorem int_of_same {K : PySem.W.Frag} {G : Hp} {v w : V} {a b : PyData} (r1 : Rep K G v a) (r2 : Rep K G w b) (h : sameInt a b = true) : v = w ∧ flatB v = true := by
  cases r1 with
  | int i =>
    cases r2 with
    | int j =>
      have e : i = j := of_decide_eq_true h
      subst e
      exact ⟨rfl, rfl⟩
    | _ => cases h
  | _ => cases h
theorem same_all {K : PySem.W.Frag} {G : Hp} {lvs : List (Key × V)} {es : List (PyData × PyData)} (r2 : RepK K G lvs es) : ∀ {kvs : List (Key × V)} {ds : List (PyData × PyData)}, RepK K G kvs ds → ds.all (sameAt es) = true → ∀ p ∈ kvs, valV lvs p.1 = some p.2 ∧ flatB p.2 = true
  | _, _, .nil, _ => fun p hp => by cases hp
  | _, _, .cons (k := k) h r, ha => fun p hp => by
    rw [List.all_cons, Bool.and_eq_true] at ha
    rcases List.mem_cons.mp hp with rfl | hp
    · have ha1 := ha.1
      unfold sameAt at ha1
      rw [keyOf_kD] at ha1
      dsimp only at ha1
      rcases r2.look k with ⟨w1, w2⟩ | ⟨v', d', w1, w2, w3⟩
      · rw [w2] at ha1; cases ha1
      · rw [w2] at ha1
        obtain ⟨e1, e2⟩ := int_of_same h w3 ha1
        subst e1
        exact ⟨w1, e2⟩
    · exact same_all r2 r ha.2 p hp
theorem od_neD {K : PySem.W.Frag} : OpD K rNeDA dNeD := by
  intro x y dx dy d G H Q i rx ry h q
  cases rx with
  | @dct a kvs ds h1 n1 r1 =>
    cases ry with
    | @dct b lvs es h2 n2 r2 =>
      unfold dNeD at h
      dsimp only at h
      split at h
      · rename_i hc
        cases h
        exact ⟨a, b, kvs, lvs, rfl, rfl, i.dK h1, i.dK h2, by rw [r1.len, r2.len]; exact hc.1, same_all r2 r1 hc.2, q _ G H (Ext.refl i) (.bl _)⟩
      · cases h
    | _ => cases h
  | _ => cases h
theorem nx_neD : NoEx dNeD := by
  intro x y c h
  unfold dNeD at h
  split at h
  · split at h <;> cases h
  · cases h
theorem se_neD (hu : X.A.units < cLine) {a b : Expr} {fa fb : EF} (ha : PE X a (tD X.K ec W fa)) (hb : PE X b (tD X.K ec W fb)) : PE X (.Compare a [.NotEq] [b] pos) (tD X.K ec W (eBin dNeD fa fb)) := se_cmp (op_ne_dictA hu) od_neD nx_neD ha hb (nomark _)
theorem st_neD (hu : X.A.units < cLine) {a b : Expr} {fa fb : EF} (ha : PE X a (tD X.K ec W fa)) (hb : PE X b (tD X.K ec W fb)) : PT X (.Compare a [.NotEq] [b] pos) (tDT X.K ec W (bVal (eBin dNeD fa fb))) := st_cmp (op_ne_dictA hu) od_neD nx_neD ha hb (nomark _)
end
end PL
/-! PL, part h: slices, displays of dicts, stores into dicts, constants of the module. -/
namespace PL
open PySem PySem.Spec PyProof.Rows L2

/-! ### slices -/
def cutD (xs : List PyData) (lo hi : Option Int) : List PyData := (xs.drop (HT.sIx xs.length 0 lo)).take (HT.sIx xs.length xs.length hi - HT.sIx xs.length 0 lo)
theorem RepA.cut {K : PySem.W.Frag} {G : Hp} {vs : List V} {ds : List PyData} (r : RepA K G vs ds) (lo hi : Option Int) : RepA K G (cutV vs lo hi) (cutD ds lo hi) := by
  unfold cutV cutD
  rw [r.length]
  exact (r.drop _).take _
def dSl (d : PyData) (lo hi : Option Int) : R PyData := match d with
  | .list xs => .ok (.list (cutD xs lo hi))
  | .tuple xs => .ok (.tuple (cutD xs lo hi))
  | _ => .no
def eOpt : Option EF → List (Option PyData) → R (Option Int)
  | none, _ => .ok none
  | some f, env => (f env).bind fun d => match d with
    | .int i => .ok (some i)
    | _ => .no
def eSl (f : EF) (lo hi : Option EF) (env : List (Option PyData)) : R PyData := (f env).bind fun d => (eOpt lo env).bind fun l => (eOpt hi env).bind fun h => dSl d l h
def PostO (K : PySem.W.Frag) (ec : Nat → Addr) (W : WX) (σ : L2.St) (H : Hp) (Q : Option Int → Hp → Prop) : R (Option Int) → Prop
  | .ok o => ∀ H', Same H H' → Q o H'
  | .ex c => ∀ H', Same H H' → W (.ref (ec c)) none σ H'
  | .no => False
def tDO (K : PySem.W.Frag) (ec : Nat → Addr) (W : WX) (f : Option EF) : TO := fun σ H Q => ∃ G env, Same G H ∧ EnvR K G σ env ∧ PostO K ec W σ H Q (eOpt f env)
theorem PO_imp {X : Cx} {e : Option Expr} {t t' : TO} (h : PO X e t) (k : ∀ σ H Q, t' σ H Q → t σ H Q) : PO X e t' := ⟨fun pins s σ H Q I q => h.run pins s σ H Q I (k _ _ _ q)⟩
theorem PostO.bind {K : PySem.W.Frag} {ec : Nat → Addr} {W : WX} {σ : L2.St} {G H : Hp} {Q : VK} {Q' : Option Int → Hp → Prop} {r : R (Option Int)} {k : Option Int → R PyData} (h : Post K ec W σ G H Q (r.bind k)) (i : Same G H) (hk : ∀ b H', r = .ok b → Same H H' → Post K ec W σ G H' Q (k b) → Q' b H') : PostO K ec W σ H Q' r := by
  cases r with
  | ok d => exact fun H' e => hk d H' rfl e (Post.mono (Ext.heap i e) h)
  | ex c => exact h
  | no => exact h
def rSlP (K : PySem.W.Frag) : V → Option Int → Option Int → Hp → VK → Prop := fun x lo hi H Q => rSlL K x lo hi H Q ∨ rSlA K x lo hi H Q
section
variable {X : Cx} {ec : Nat → Addr} {W : WX} {e e2 : Expr} {f fk : EF} {lo hi : Option Expr} {fl fh : Option EF} {pos p2 : Pos}
theorem so_none : PO X none (tDO X.K ec W none) := PO_imp po_none fun σ H Q ⟨G, env, s, E, p⟩ => p H (Same.refl _)
theorem so_some (h : PE X e (tD X.K ec W f)) : PO X (some e) (tDO X.K ec W (some f)) := PO_imp (po_some h) fun σ H Q ⟨G, env, s, E, p⟩ => by
  refine ⟨G, env, s, E, ?_⟩
  unfold eOpt at p
  dsimp only at p
  cases q : f env with
  | ok d =>
    rw [q] at p
    intro v G' H' e r
    cases r with
    | int i => exact ⟨i, rfl, p H' e.h⟩
    | _ => exact p.elim
  | ex c => rw [q] at p; exact p
  | no => rw [q] at p; exact p
theorem se_sl (he : PE X e (tD X.K ec W f)) (hl : PO X lo (tDO X.K ec W fl)) (hh : PO X hi (tDO X.K ec W fh)) : PE X (.Subscript e (.Slice lo hi none p2) pos) (tD X.K ec W (eSl f fl fh)) :=
  PE_imp (pe_slice (sl_list.or sl_tupA) he hl hh) fun σ H Q ⟨G, env, s, E, p⟩ => ⟨G, env, s, E, Post.bind p fun v d G1 H1 _ e1 r1 p1 =>
    ⟨G1, env, e1.i, E.mono e1.g, PostO.bind p1 e1.i fun l H2 _ s2 p2 => ⟨G1, env, e1.i.trans s2, E.mono e1.g, PostO.bind p2 (e1.i.trans s2) fun h H3 _ s3 p3 => by
      have i3 : Same G1 H3 := (e1.i.trans s2).trans s3
      cases r1 with
      | @lst a xs ds ha r => exact .inl ⟨a, xs, rfl, (ls_same i3 ha).sq, fun p n => p3 _ _ _ (Ext.new i3 n) (ext_list i3 n (r.cut l h))⟩
      | @tup a xs ds ha r =>
        refine .inr ⟨a, xs, rfl, sqT_same i3 ha, fun hw => ?_, fun _ p n => p3 _ _ _ (Ext.new i3 n) (ext_tup i3 n (r.cut l h))⟩
        have e : cutD ds l h = ds := by
          unfold cutD
          rw [← r.length, hw.1, hw.2, List.drop_zero, Nat.sub_zero, r.length, List.take_length]
        refine p3 _ G1 H3 (Ext.refl i3) ?_
        rw [e]
        exact .tup ha r
      | _ => exact p3.elim⟩⟩⟩
end

/-! ### displays of dicts -/
def dispT (K : PySem.W.Frag) (ec : Nat → Addr) (W : WX) (kf : List (Str × EF)) : List (TE × TE) := kf.map fun p => (tC (.str p.1), tD K ec W p.2)
def zipK : List (Str × EF) → List PyData → List (PyData × PyData)
  | (k, _) :: r, d :: ds => (.str k, d) :: zipK r ds
  | _, _ => []
def eDisp (kf : List (Str × EF)) (env : List (Option PyData)) : R PyData := (aAll (kf.map (·.2)) env).bind fun ds => .ok (.dict (zipK kf ds))
def PostKV (K : PySem.W.Frag) (ec : Nat → Addr) (W : WX) (σ : L2.St) (G H : Hp) (kf : List (Str × EF)) (Q : List (Key × V) → Hp → Prop) : R (List PyData) → Prop
  | .ok ds => ∀ kvs G' H', Ext G H G' H' → RepK K G' kvs (zipK kf ds) → kvs.map (·.1) = kf.map (fun p => Sum.inr p.1) → Q kvs H'
  | .ex c => ∀ H', Same H H' → W (.ref (ec c)) none σ H'
  | .no => False
theorem pairs_D {K : PySem.W.Frag} {ec : Nat → Addr} {W : WX} {σ : L2.St} {env : List (Option PyData)} : ∀ (kf : List (Str × EF)) (G H : Hp) (Q : List (V × V) → Hp → Prop), Same G H → EnvR K G σ env →
    PostKV K ec W σ G H kf (fun kvs H' => Q (kvs.map fun kv => (kV kv.1, kv.2)) H') (aAll (kf.map (·.2)) env) → tPairs (dispT K ec W kf) σ H Q
  | [], G, H, Q, i, E, p => p [] G H (Ext.refl i) .nil rfl
  | (k, f) :: r, G, H, Q, i, E, p => by
    show tPairs ((tC (.str k), tD K ec W f) :: dispT K ec W r) σ H Q
    refine ⟨G, env, i, E, ?_⟩
    have p : PostKV K ec W σ G H ((k, f) :: r) (fun kvs H' => Q (kvs.map fun kv => (kV kv.1, kv.2)) H') ((f env).bind fun d => (aAll (r.map (·.2)) env).bind fun ds => .ok (d :: ds)) := p
    cases q : f env with
    | ex c => rw [q] at p; exact p
    | no => rw [q] at p; exact p
    | ok d =>
      rw [q, R.bind_ok] at p
      intro v G1 H1 e1 r1
      refine pairs_D r G1 H1 _ e1.i (E.mono e1.g) ?_
      cases q2 : aAll (r.map (·.2)) env with
      | ex c => rw [q2] at p; exact fun H' s => p H' (e1.h.trans s)
      | no => rw [q2] at p; exact p
      | ok ds =>
        rw [q2] at p
        intro kvs G2 H2 e2 r2 hk
        exact p ((Sum.inr k, v) :: kvs) G2 H2 (e1.trans e2) (.cons (k := Sum.inr k) (r1.mono e2.g) r2) (by rw [List.map_cons, List.map_cons, hk])
theorem putK_last {acc : List (Key × V)} {k : Key} {v : V} (h : k ∉ acc.map (·.1)) : putK acc k v = acc ++ [(k, v)] := by
  unfold putK
  rw [if_neg]
  intro q
  obtain ⟨p, hp, e⟩ := List.any_eq_true.mp q
  exact h (List.mem_map.mpr ⟨p, hp, of_decide_eq_true e⟩)
theorem mergeK_nodup : ∀ (kvs acc : List (Key × V)), ((acc ++ kvs).map (·.1)).Nodup → mergeK acc kvs = acc ++ kvs
  | [], acc, _ => by rw [List.append_nil]; rfl
  | (k, v) :: r, acc, h => by
    have hk : k ∉ acc.map (·.1) := fun hm => by
      rw [List.map_append, List.nodup_append] at h
      exact h.2.2 k hm k (by simp) rfl
    show mergeK (putK acc k v) r = _
    rw [putK_last hk, mergeK_nodup r (acc ++ [(k, v)]) (by rw [List.append_assoc]; exact h), List.append_assoc]
    rfl
section
variable {X : Cx} {ec : Nat → Addr} {W : WX} {G0 H0 : Hp} {e v : Expr} {f fe fk : EF} {ks : List (Option Expr)} {vs : List Expr} {kf : List (Str × EF)} {pos pos' p : Pos} {k : Str} {j : Nat}
theorem sp_nil : PPs X pos [] [] (dispT X.K ec W []) := pps_nil
theorem sp_cons (hv : PE X v (tD X.K ec W f)) (hr : PPs X pos ks vs (dispT X.K ec W kf)) : PPs X pos (some (.Constant (.str k) j p) :: ks) (v :: vs) (dispT X.K ec W ((k, f) :: kf)) := pps_cons pe_str hv hr
theorem sn_disp (h : PPs X pos ks vs (dispT X.K ec W kf)) (hn : (kf.map (·.1)).Nodup) (hl15 : kf.length ≤ 15 := by exact Nat.le_of_ble_eq_true rfl) (hall : ks.all (·.isSome) = true := by rfl) (hl : ks.length = vs.length := by rfl) (h0 : ks ≠ [] := by intro z; cases z) (h15 : ks.length ≤ 15 := by decide) :
    PE X (.Dict ks vs pos) (tDN X.K ec W (eDisp kf)) :=
  PE_imp (pe_disp h hall hl h0 h15) fun σ H Q ⟨G, env, s, E, p⟩ => fun l nl => by
    have gl : G l = none := s.free nl
    have i1 : Same G (upd H l (.dK [])) := s.trans (same_new nl)
    refine pairs_D kf G _ _ i1 E ?_
    unfold eDisp at p
    cases q : aAll (kf.map (·.2)) env with
    | ex c => rw [q] at p; exact fun H' s' => p H' ((same_new nl).trans s')
    | no => rw [q] at p; exact p
    | ok ds =>
      rw [q] at p
      intro kvs G' H' e1 r1 hk
      have hnd : (kvs.map (·.1)).Nodup := by
        rw [hk]
        have : kf.map (fun p => (Sum.inr p.1 : Key)) = (kf.map (·.1)).map Sum.inr := by rw [List.map_map]; rfl
        rw [this, List.Nodup, List.pairwise_map]
        exact List.Pairwise.imp (fun hne z => hne (Sum.inr.inj z)) hn
      have hlen : kvs.length ≤ 15 := by
        have := congrArg List.length hk
        rw [List.length_map, List.length_map] at this
        omega
      have hl' : H' l = some (.dK []) := e1.h.dK upd_same
      refine ⟨hl', kvs, rfl, hlen, ?_⟩
      rw [mergeK_nodup kvs [] (by rw [List.nil_append]; exact hnd), List.nil_append]
      have g' : G' l = none := e1.clean gl upd_same
      refine p l G' _ ⟨e1.g, same_put ((same_new nl).trans e1.h) nl hl' (tame_dK _), same_put e1.i g' hl' (tame_dK _), fun b h1 h2 => ?_⟩ nl g' ⟨kvs, upd_same, hnd, r1⟩
      · have := e1.f b h1 h2
        by_cases hb : b = l
        · rw [hb]; exact nl
        · rw [upd_ne hb] at this; exact this
/-- d[k] = v of an owned dict -/
noncomputable def sDSet (mv mk : Md) (i : Nat) (fv fk : EF) (env : Ev) : Out := match env[i]? with
  | some (.ow (.dict kvs)) => (evM mv fv env).out fun d => (evM mk fk env).out fun k => match keyOf k with
    | some kk => if kvs.length < szl then .nx (env.set i (.ow (.dict (dPut kvs kk d)))) else .no
    | none => .no
  | _ => .no
theorem sn_dnew : PE X (.Dict [] [] pos) (tDN X.K ec W (eC (.dict []))) :=
  PE_imp pe_dnewK fun σ H Q ⟨G, env, s, E, p⟩ => fun l nl => p l G _ (Ext.heap s (same_new nl)) nl (s.free nl) ⟨[], upd_same, List.nodup_nil, .nil⟩
theorem ss_dset (mv mk : Md) {i : Nat} {x : Str} (hu : X.A.units + 1 < cLine) (he : PE X e (tD X.K ec W fe)) (hk : PE X v (tD X.K ec W fk)) (hi : X.N[i]? = some x := by rfl) (hv : Vis X.env.scope x := by first | exact Or.inl rfl | exact Or.inr (Or.inl rfl) | exact Or.inr (Or.inr rfl)) (hd : (x == ("__debug__" : Str)) = false := by decide) (hcd : (x == ("__classdict__" : Str)) = false := by decide)
    (hs : swapsWith e (some (.Subscript (.Name x p) v pos')) pos.line X.env = pure false := by rfl) :
    PS X (.Assign [.Subscript (.Name x p) v pos'] e pos) (tDS X.K ec W G0 H0 (sDSet mv mk i fe fk)) := by
  refine PS_imp (ps_dput hu (pe_var hi hv hd hcd) hk he hs) fun D σ H ⟨G, env, S, p⟩ => ?_
  unfold sDSet at p
  split at p
  · rename_i ds q
    refine tD_M (m := mv) S (PostE.out p fun v d G1 H1 _ g1 S1 r1 p1 => ?_)
    obtain ⟨l, a1, a2, a3, vs, a4, a5, a6⟩ := S1.ow i _ q
    refine ⟨_, a1, tD_M (m := mk) S1 (PostE.out p1 fun kv kd G2 H2 _ g2 S2 r2 p2 => ?_)⟩
    obtain ⟨l', b1, b2, b3, vs', b4, b5, b6⟩ := S2.ow i _ q
    rw [a1] at b1
    cases b1
    cases hkk : keyOf kd with
    | none => rw [hkk] at p2; exact p2.elim
    | some kk =>
      rw [hkk] at p2
      dsimp only at p2
      have ev := kd_kv r2 hkk
      subst ev
      split at p2
      · rename_i hz
        refine ⟨l, _, rfl, DPut.k (k := kk) b4 (Nat.lt_of_lt_of_le (by rw [b6.len]; exact hz) (szl_line (Nat.le_refl _))), ?_⟩
        exact p2 σ G2 _ (Same.refl _) (S2.mut q a1 ⟨_, upd_same, putK_keys b5, b6.put kk (r1.mono g2)⟩)
      · exact p2.elim
  · exact p.elim
end

/-! ### constants of the module -/
/-- the module's name x holds the datum d, whatever the heap -/
def GlobD (K : PySem.W.Frag) (mg : Str → Option Value) (x : Str) (d : PyData) : Prop := ∃ v u, mg x = some u ∧ RelV v u ∧ ∀ G, Rep K G v d
theorem globD_int {K : PySem.W.Frag} {mg : Str → Option Value} {x : Str} {i : Int} {t : Tok} (h : mg x = some (.int i t)) : GlobD K mg x (.int i) := ⟨.int i, _, h, ⟨t, rfl⟩, fun _ => .int i⟩
theorem globD_str {K : PySem.W.Frag} {mg : Str → Option Value} {x : Str} {z : Str} {t : Tok} (h : mg x = some (.str z t)) : GlobD K mg x (.str z) := ⟨.str z, _, h, ⟨t, rfl⟩, fun _ => .str z⟩
theorem se_glob {X : Cx} {ec : Nat → Addr} {W : WX} {x : Str} {pos : Pos} {d : PyData} (g : GlobD X.K X.mg x d) (hg : Gl X x) (hd : (x == ("__debug__" : Str)) = false := by decide) : PE X (.Name x pos) (tD X.K ec W (eC d)) := by
  obtain ⟨v, u, hm, r, h⟩ := g
  exact se_c (pe_glob hg hm r hd) h
end PL
/-! PL, part i: two names at once, contexts of defs, levels. -/
namespace PL
open PySem PySem.Spec PyProof.Rows L2

def evML : Md → List EF → Ev → R (List PyData)
  | .P, fs, env => aAll fs (env.map Sl.pur)
  | .A, fs, env => (aAll fs (env.map Sl.full)).bind fun ds => if ds.all atomic = true then .ok ds else .no
def PostEL (K : PySem.W.Frag) (ec : Nat → Addr) (W : WX) (G0 H0 G : Hp) (σ : L2.St) (env : Ev) (Q : List V → Hp → Prop) : R (List PyData) → Prop
  | .ok ds => ∀ vs G' H', Same G G' → StR K G0 H0 G' H' σ env → RepA K G' vs ds → Q vs H'
  | .ex c => ∀ H', Same H0 H' → W (.ref (ec c)) none σ H'
  | .no => False
theorem atomic_repA {K : PySem.W.Frag} {G G' : Hp} : ∀ {vs : List V} {ds : List PyData}, RepA K G vs ds → ds.all atomic = true → RepA K G' vs ds
  | _, _, .nil, _ => .nil
  | _, _, .cons h r, a => by
    rw [List.all_cons, Bool.and_eq_true] at a
    exact .cons (atomic_rep h a.1) (atomic_repA r a.2)
section
variable {K : PySem.W.Frag} {ec : Nat → Addr} {W : WX} {G0 H0 G H : Hp} {σ : L2.St} {env : Ev} {D : Ends} {Q : List V → Hp → Prop}
theorem tDA_M {m : Md} {fs : List EF} (S : StR K G0 H0 G H σ env) (h : PostEL K ec W G0 H0 G σ env Q (evML m fs env)) : tDA K ec W fs σ H Q := by
  cases m with
  | P =>
    refine ⟨G, _, S.x.i, S.envP, ?_⟩
    have h : PostEL K ec W G0 H0 G σ env Q (aAll fs (env.map Sl.pur)) := h
    cases q : aAll fs (env.map Sl.pur) with
    | ok d => rw [q] at h; exact fun v G' H' e r => h v G' H' e.g (S.grow e) r
    | ex c => rw [q] at h; exact fun H' s => h H' (S.x.h.trans s)
    | no => rw [q] at h; exact h
  | A =>
    refine ⟨_, _, S.viewH, S.envF, ?_⟩
    have h : PostEL K ec W G0 H0 G σ env Q ((aAll fs (env.map Sl.full)).bind fun ds => if ds.all atomic = true then .ok ds else .no) := h
    cases q : aAll fs (env.map Sl.full) with
    | ok d =>
      rw [q] at h
      rw [R.bind_ok] at h
      split at h
      · rename_i ha
        exact fun v G' H' e r => h v G H' (Same.refl _) (S.grow (Ext.heap S.x.i e.h)) (atomic_repA r ha)
      · exact h.elim
    | ex c => rw [q] at h; exact fun H' s => h H' (S.x.h.trans s)
    | no => rw [q] at h; exact h
theorem PostEL.out {r : R (List PyData)} {k : List PyData → Out} (h : PostS K ec W G0 H0 G D (r.outL k)) (hk : ∀ vs ds G' H', r = .ok ds → Same G G' → StR K G0 H0 G' H' σ env → RepA K G' vs ds → PostS K ec W G0 H0 G' D (k ds) → Q vs H') : PostEL K ec W G0 H0 G σ env Q r := by
  cases r with
  | ok d => exact fun v G' H' g S r => hk v d G' H' rfl g S r (PostS.mono g h)
  | ex c => exact fun H' s => h σ H' s
  | no => exact h
end
def sPar (m : Md) (i j : Nat) (fs : List EF) (env : Ev) : Out := (evML m fs env).outL fun ds => match ds with
  | [a, b] => .nx ((env.set i (.pu a)).set j (.pu b))
  | _ => .no
section
variable {X : Cx} {ec : Nat → Addr} {W : WX} {G0 H0 : Hp} {a b : Expr} {fs : List EF} {pos px py pt : Pos} {i j : Nat} {x y : Str}
theorem ss_par (m : Md) {kt k2 pt2} (hc : X.calm = true) (hN : X.N.Nodup) (ha : PA X [a, b] (tDA X.K ec W fs)) (hi : X.N[i]? = some x := by rfl) (hj : X.N[j]? = some y := by rfl) (hij : i ≠ j := by decide)
    (hx : X.env.scope.names.lookup x = some .local := by rfl) (hy : X.env.scope.names.lookup y = some .local := by rfl)
    (hw : swappedStores [.Tuple [.Name x px, .Name y py] kt pt] (.Tuple [a, b] k2 pt2) X.env = pure (some [x, y]) := by rfl)
    (hs : swapsWithSole [.Tuple [.Name x px, .Name y py] kt pt] (.Tuple [a, b] k2 pt2) pos.line X.env = pure false := by rfl) :
    PS X (.Assign [.Tuple [.Name x px, .Name y py] kt pt] (.Tuple [a, b] k2 pt2) pos) (tDS X.K ec W G0 H0 (sPar m i j fs)) :=
  PS_imp (ps_par hc hN hi hj hij hx hy ha hw hs) fun D σ H ⟨G, env, S, p⟩ => tDA_M (m := m) S (PostEL.out p fun vs ds G' H' _ g S' r p' => by
    split at p'
    · cases r with
      | cons r1 r2 =>
        cases r2 with
        | cons r2 r3 =>
          cases r3
          exact ⟨_, _, rfl, p' _ G' H' (Same.refl _) ((S'.setP r1).setP r2)⟩
    · exact p'.elim)
end

/-! ### the context of a def -/
section
variable {P : Program} {w : World} {K : PySem.W.Frag} {mg : Str → Option Value} {base : Heap} {N : List Str} {qual : Str} {sc : Scope} {f : Addr} {cdv : Value} {A : Around} {outer : List Env} {s : Shared} {H : Hp} {E : XK}
theorem tk_cx : L2N.Takes (cxOf (L2N.CX P w) P w K mg base N qual sc f cdv A outer s H E) (fun cls d _ H => E cls d H) := L2N.takes_of rfl rfl rfl rfl
theorem hp_cx : PassesOwn (model P w) (A.deeper (envOfC qual sc s.heap.objs.size f cdv)) (envOfC qual sc s.heap.objs.size f cdv) (cxOf (L2N.CX P w) P w K mg base N qual sc f cdv A outer s H E).xe := passes_of (X := cxOf (L2N.CX P w) P w K mg base N qual sc f cdv A outer s H E) rfl
end
theorem units65 {k : Nat} {A : Around} (r : Room k A) : A.units + 65 < cLine := by have := r.un; omega
/-- a def that is never worth anything -/
theorem fn_no {P : Program} {w : World} {K : PySem.W.Frag} {mg : Str → Option Value} {base : Heap} {ec : Nat → Addr} {k n : Nat} {f : Addr} {fd : FuncData} {ps : List Str} (hn : ps.length = n) {g : List PyData → R PyData} (hg : ∀ ds, g ds = .no) : FnOk P w K mg base (L2N.CX P w) k f fd ps (spP K ec n g) :=
  ⟨fun vs H Q E h => by rw [h.1, hn], fun A outer s H args us vs Q E hr e0 hb r h => by
    obtain ⟨_, G, ds, _, _, _, p⟩ := h
    rw [hg] at p
    exact p.elim⟩
theorem cal_of {P : Program} {w : World} {K : PySem.W.Frag} {mg : Str → Option Value} {base : Heap} {ec : Nat → Addr} {x qual : Str} {st : Stmt} {n k : Nat} {g : List PyData → R PyData} {f : Addr} {fd : FuncData} {ps : List Str}
    (F : Fun K x qual st f fd) (hm : mg x = some (.ref f)) (hb : Binds K fd ps []) (ok : FnOk P w K mg base (L2N.CX P w) k f fd ps (spP K ec n g)) : Cal P w K mg base ec x n k g := ⟨f, fd, ps, ok, hm, F.kp, hb⟩
theorem Cal.mono {P : Program} {w : World} {K : PySem.W.Frag} {mg : Str → Option Value} {base : Heap} {ec : Nat → Addr} {x : Str} {n j k : Nat} {g : List PyData → R PyData} (c : Cal P w K mg base ec x n j g) (h : j ≤ k) : Cal P w K mg base ec x n k g := by
  obtain ⟨f, fd, ps, F, hm, hk, hb⟩ := c.ex
  exact ⟨f, fd, ps, F.mono h, hm, hk, hb⟩
end PL
/-! PL, part j: the end of a law. -/
namespace PL
open PySem PySem.Spec PyProof.Rows L2
/-- what is known at the head: the def's promise, with the code tables that it may write -/
def AtHead (l : PySem.W.OpenLaw) (w : World) (mg : Str → Option Value) (fa : Addr) (h : Heap) (k : Nat) (x : Str) (g : List PyData → R PyData) (K : PySem.W.Frag) : Prop :=
  ∃ (ec : Nat → Addr) (fd : FuncData) (cs : List (Addr × Addr)), (∀ p ∈ cs, h.get? p.2 = some { cls := .none, data := .fields #[] }) ∧ (∀ p ∈ cs, K.lookup p.2 = none) ∧ (∀ p ∈ cs, PySem.W.CodeHd h p.1 p.2) ∧ (∀ P ∈ tabs, ∃ p ∈ cs, p.2 = P) ∧
    (∀ (s : Shared) (u : Value), BindsTo s fd ⟨[u], []⟩ [(x, u)]) ∧ ∀ base : Heap, K.In base → base.Ns mainGlobals mg → (∀ p ∈ cs, LamX.TabB base mg p.1 p.2) → FnOk l.prog w K mg base (L2N.CX l.prog w) k fa fd [x] (spP K ec 1 g)
theorem walk_D {l : PySem.W.OpenLaw} {n k : Nat} {q : Program} {loose : List Str} {XP : (Str → Option Value) → Heap → Prop} {YP : World → Heap → Prop} {d : DefRec} {x : Str} {g : List PyData → R PyData}
    (hn : l.most = some n) (hn2 : n ≤ sizeLine) (hdf : d.params.defaults = []) (hr : Room k callerA)
    (F : ∀ (w : World) (mg : Str → Option Value) (fa : Addr) (h : Heap), YP w h → h.Ns mainGlobals mg → mg d.name = some (.ref fa) → ∃ K : PySem.W.Frag, K.In h ∧ AtHead l w mg fa h k x g K)
    (hg : ∀ ns : List Int, ns.length ≤ n → g [.list (ns.map PyData.int)] = .ok (.bool true)) : PySem.W.WalkO q loose XP YP l.row.toRowW d [] (fun f vs => PySem.call f vs) := by
  refine Att.attach_callB hn hdf fun w s₀ s₁ mg mb fa o pm cd doc a vs ns G Y ho hd hcd hmg hobj hints hlen hbits hgen => ?_
  obtain ⟨K, KX, ec, fd, cs, hT, nT, C, hcs, hb, hF⟩ := F w mg fa _ Y G.T.g hmg
  refine LamX.law_callTs KX G.T.g G.T.b G.T.builtins G.T.nolimit hgen hT nT C G.T.bmain hobj hints (Nat.le_trans hlen hn2) hr hF hb (fun H hH hS => ⟨rfl, H, [.list (ns.map PyData.int)], fun P hP => ?_, Same.refl _, .cons (.lst ?_ (repA_ints ns)) .nil, ?_⟩) fun H e s' h => ?_
  · obtain ⟨p, hp, e⟩ := hcs P hP
    rw [← e]
    exact NdefX.TabN.nil (hH p hp)
  · rcases hS with hS | ⟨o', its, m, h1, h2, h3, h4, h5, h6⟩
    · exact .inl hS
    · have e := KX a o' h1
      rw [hobj] at e
      cases e
      injection h4 with h4 _
      subst h4
      rw [List.size_toArray] at h5
      exact .inr ⟨vs, _, h1, h5, by simpa using h6⟩
  · rw [hg ns hlen]
    intro v G' H' _ r
    cases r
    rfl
  · obtain ⟨_, _, _, _, _, _, _, _, _, _, _, _, z⟩ := h
    exact z.elim
/-- without tables -/
theorem AtHead.plain {l : PySem.W.OpenLaw} {w : World} {mg : Str → Option Value} {fa : Addr} {h : Heap} {k : Nat} {x : Str} {g : List PyData → R PyData} {K : PySem.W.Frag} (ht : tabs = [])
    (F : ∃ (ec : Nat → Addr) (fd : FuncData), (∀ (s : Shared) (u : Value), BindsTo s fd ⟨[u], []⟩ [(x, u)]) ∧ ∀ base : Heap, K.In base → base.Ns mainGlobals mg → FnOk l.prog w K mg base (L2N.CX l.prog w) k fa fd [x] (spP K ec 1 g)) : AtHead l w mg fa h k x g K := by
  obtain ⟨ec, fd, hb, hF⟩ := F
  refine ⟨ec, fd, [], ?_, ?_, ?_, ?_, hb, fun base h1 h2 _ => hF base h1 h2⟩
  · intro p hp; cases hp
  · intro p hp; cases hp
  · intro p hp; cases hp
  · intro P hP; rw [ht] at hP; cases hP
end PL
/-! PL, part k: how the reckonings come out (rows for simp). -/
namespace PL
open PySem PySem.Spec PyProof.Rows L2

/-! ### texts -/
theorem strOk_of (s : String) : PyData.strOk (Str.ofString s) = true := by
  rw [Str.ofString_eq_toList]
  unfold PyData.strOk
  rw [Array.all_eq_true]
  intro i hi
  simp only [List.getElem_toArray, List.getElem_map, decide_eq_true_eq]
  have h := (s.toList[i]'(by simpa using hi)).valid
  unfold Nat.isValidChar UInt32.isValidChar at h
  show (s.toList[i]'(by simpa using hi)).toNat < 0x110000
  unfold Char.toNat
  rcases h with h | h
  · have : (s.toList[i]'(by simpa using hi)).val.toNat < 0xd800 := h
    omega
  · exact h.2
theorem ofString_inj {a b : String} : Str.ofString a = Str.ofString b ↔ a = b := by
  refine ⟨fun h => ?_, fun h => by rw [h]⟩
  rw [Str.ofString_eq_toList, Str.ofString_eq_toList] at h
  have h1 : a.toList.map Char.toNat = b.toList.map Char.toNat := by
    have := congrArg (fun s : Str => s.cps.toList) h
    simpa using this
  have inj : ∀ {x y : List Char}, x.map Char.toNat = y.map Char.toNat → x = y := by
    intro x
    induction x with
    | nil => intro y h; cases y with
      | nil => rfl
      | cons _ _ => cases h
    | cons c r ih =>
      intro y h
      cases y with
      | nil => cases h
      | cons d s =>
        rw [List.map_cons, List.map_cons] at h
        injection h with h1 h2
        rw [Char.toNat_inj.mp h1, ih h2]
  exact String.toList_inj.mp (inj h1)

/-! ### data of a depth -/
def Shp (n : Nat) (d : PyData) : Prop := d.canLay0 = true ∧ d.depth ≤ n
def ShpA (n : Nat) (ds : List PyData) : Prop := PyData.canLayAll0 ds = true ∧ PyData.depthAll ds ≤ n
theorem shaped_of {n : Nat} {d : PyData} (h : Shp n d) (hn : n ≤ 64) : SeqAt.shaped d = true := by
  unfold SeqAt.shaped
  rw [Bool.and_eq_true, decide_eq_true_eq]
  exact ⟨h.1, Nat.le_trans h.2 hn⟩
theorem shp_int (n : Nat) (i : Int) : Shp n (.int i) := ⟨by simp [PyData.canLay0], by simp [PyData.depth]⟩
theorem shp_bool (n : Nat) (i : Bool) : Shp n (.bool i) := ⟨by simp [PyData.canLay0], by simp [PyData.depth]⟩
theorem shp_none (n : Nat) : Shp n .none := ⟨by simp [PyData.canLay0], by simp [PyData.depth]⟩
theorem shp_str (n : Nat) {x : Str} (h : PyData.strOk x = true) : Shp n (.str x) := ⟨by simpa [PyData.canLay0] using h, by simp [PyData.depth]⟩
theorem shpA_nil (n : Nat) : ShpA n [] := ⟨by simp [PyData.canLayAll0], by simp [PyData.depthAll]⟩
theorem shpA_cons {n : Nat} {d : PyData} {ds : List PyData} (h : Shp n d) (r : ShpA n ds) : ShpA n (d :: ds) := by
  refine ⟨?_, ?_⟩
  · simp only [PyData.canLayAll0, Bool.and_eq_true]
    exact ⟨h.1, r.1⟩
  · simp only [PyData.depthAll]
    have h1 := h.2
    have h2 := r.2
    omega
theorem shp_list {n : Nat} {ds : List PyData} (h : ShpA n ds) : Shp (n + 1) (.list ds) := by
  refine ⟨by simpa [PyData.canLay0] using h.1, ?_⟩
  simp only [PyData.depth]
  have := h.2
  omega
theorem shp_tuple {n : Nat} {ds : List PyData} (h : ShpA n ds) : Shp (n + 1) (.tuple ds) := by
  refine ⟨by simpa [PyData.canLay0] using h.1, ?_⟩
  simp only [PyData.depth]
  have := h.2
  omega
theorem shpA_of {n : Nat} : ∀ {ds : List PyData}, (∀ d ∈ ds, Shp n d) → ShpA n ds
  | [], _ => shpA_nil n
  | d :: ds, h => shpA_cons (h d List.mem_cons_self) (shpA_of fun x hx => h x (List.mem_cons_of_mem _ hx))
theorem shpA_ints (n : Nat) (ns : List Int) : ShpA n (ns.map PyData.int) := shpA_of fun d hd => by
  obtain ⟨i, _, rfl⟩ := List.mem_map.mp hd
  exact shp_int n i
theorem Shp.mono {n m : Nat} {d : PyData} (h : Shp n d) (e : n ≤ m) : Shp m d := ⟨h.1, Nat.le_trans h.2 e⟩
@[simp] theorem shaped_int (i : Int) : SeqAt.shaped (.int i) = true := shaped_of (shp_int 0 i) (by decide)
@[simp] theorem shaped_bool (i : Bool) : SeqAt.shaped (.bool i) = true := shaped_of (shp_bool 0 i) (by decide)
@[simp] theorem shaped_none : SeqAt.shaped .none = true := shaped_of (shp_none 0) (by decide)
@[simp] theorem shaped_str (s : String) : SeqAt.shaped (.str (Str.ofString s)) = true := shaped_of (shp_str 0 (strOk_of s)) (by decide)
@[simp] theorem shaped_nilL : SeqAt.shaped (.list []) = true := shaped_of (shp_list (shpA_nil 0)) (by decide)
@[simp] theorem shaped_nilT : SeqAt.shaped (.tuple []) = true := shaped_of (shp_tuple (shpA_nil 0)) (by decide)
@[simp] theorem shaped_ints (ns : List Int) : SeqAt.shaped (.list (ns.map PyData.int)) = true := shaped_of (shp_list (shpA_ints 0 ns)) (by decide)

/-! ### operators -/
section
variable {a b : Int} {x y : PyData}
@[simp] theorem dAdd_int : dAdd (.int a) (.int b) = .ok (.int (a + b)) := rfl
@[simp] theorem dSub_int : dSub (.int a) (.int b) = .ok (.int (a - b)) := rfl
theorem dMul_int (h : mulOk a b = true) : dMul (.int a) (.int b) = .ok (.int (a * b)) := if_pos h
theorem mulOk_r (h1 : -18446744073709551616 < b) (h2 : b < 18446744073709551616) : mulOk a b = true := by
  rw [mulOk_eq]
  simp only [Bool.or_eq_true, Bool.and_eq_true, decide_eq_true_eq]
  exact .inl (.inr ⟨by omega, by omega⟩)
theorem mulOk_l (h1 : -18446744073709551616 < a) (h2 : a < 18446744073709551616) : mulOk a b = true := by
  rw [mulOk_eq]
  simp only [Bool.or_eq_true, Bool.and_eq_true, decide_eq_true_eq]
  exact .inl (.inl ⟨by omega, by omega⟩)
/-- below so many bits -/
def Bd (n : Nat) (a : Int) : Prop := a.natAbs < 2 ^ n
theorem mulOk_bd {n m : Nat} (ha : Bd n a) (hb : Bd m b) (h : n + m ≤ 900000) : mulOk a b = true := by
  have la : a.natAbs.log2 ≤ n := by
    rcases Nat.eq_zero_or_pos a.natAbs with h0 | hp
    · rw [h0]; simp
    · exact Nat.le_of_lt ((Nat.log2_lt (Nat.ne_of_gt hp)).mpr ha)
  have lb : b.natAbs.log2 ≤ m := by
    rcases Nat.eq_zero_or_pos b.natAbs with h0 | hp
    · rw [h0]; simp
    · exact Nat.le_of_lt ((Nat.log2_lt (Nat.ne_of_gt hp)).mpr hb)
  rw [mulOk_eq]
  simp only [Bool.or_eq_true, decide_eq_true_eq]
  exact .inr (by omega)
theorem divOk_bd {n : Nat} (h : 0 < b) (hb : Bd n b) (hn : n ≤ 8999) : divOk b = true := by
  have lb : b.natAbs.log2 ≤ n := by
    rcases Nat.eq_zero_or_pos b.natAbs with h0 | hp
    · rw [h0]; simp
    · exact Nat.le_of_lt ((Nat.log2_lt (Nat.ne_of_gt hp)).mpr hb)
  rw [divOk_eq]
  simp only [Bool.and_eq_true, decide_eq_true_eq]
  exact ⟨h, by omega⟩
theorem dDiv_int (h : divOk b = true) : dDiv (.int a) (.int b) = .ok (.int (a / b)) := if_pos h
theorem divOk_small (h : 0 < b) (h2 : b < 18446744073709551616) : divOk b = true := divOk_bd (n := 64) h (by unfold Bd; omega) (by decide)
theorem dMod_int (h : 0 < b) : dMod (.int a) (.int b) = .ok (.int (a % b)) := if_pos h
@[simp] theorem dLt_int : dLt (.int a) (.int b) = .ok (.bool (decide (a < b))) := rfl
@[simp] theorem dLe_int : dLe (.int a) (.int b) = .ok (.bool (decide (a ≤ b))) := rfl
@[simp] theorem dGt_int : dGt (.int a) (.int b) = .ok (.bool (decide (b < a))) := rfl
@[simp] theorem dGe_int : dGe (.int a) (.int b) = .ok (.bool (decide (b ≤ a))) := rfl
theorem dEq_shp (hx : SeqAt.shaped x = true) (hy : SeqAt.shaped y = true) : dEq x y = .ok (.bool (PyData.eqv x y)) := if_pos ⟨hx, hy⟩
theorem dNe_shp (hx : SeqAt.shaped x = true) (hy : SeqAt.shaped y = true) : dNe x y = .ok (.bool (!PyData.eqv x y)) := if_pos ⟨hx, hy⟩
@[simp] theorem dEq_int : dEq (.int a) (.int b) = .ok (.bool (decide (a = b))) := by
  rw [dEq_shp (shaped_int a) (shaped_int b)]
  simp only [PyData.eqv]
  by_cases h : a = b <;> simp [h]
@[simp] theorem dNe_int : dNe (.int a) (.int b) = .ok (.bool (!decide (a = b))) := by
  rw [dNe_shp (shaped_int a) (shaped_int b)]
  simp only [PyData.eqv]
  by_cases h : a = b <;> simp [h]
@[simp] theorem dEq_str {s t : String} : dEq (.str (Str.ofString s)) (.str (Str.ofString t)) = .ok (.bool (decide (s = t))) := by
  rw [dEq_shp (shaped_str s) (shaped_str t)]
  simp only [PyData.eqv]
  congr 2
  by_cases h : s = t
  · subst h; simp
  · have : ¬ Str.ofString s = Str.ofString t := fun z => h (ofString_inj.mp z)
    simp [h, this]
@[simp] theorem dNe_str {s t : String} : dNe (.str (Str.ofString s)) (.str (Str.ofString t)) = .ok (.bool (!decide (s = t))) := by
  rw [dNe_shp (shaped_str s) (shaped_str t)]
  simp only [PyData.eqv]
  congr 3
  by_cases h : s = t
  · subst h; simp
  · have : ¬ Str.ofString s = Str.ofString t := fun z => h (ofString_inj.mp z)
    simp [h, this]
theorem dEq_nil (ds : List PyData) (h : SeqAt.shaped (.list ds) = true) : dEq (.list ds) (.list []) = .ok (.bool ds.isEmpty) := by
  rw [dEq_shp h shaped_nilL]
  cases ds <;> simp [PyData.eqv, PyData.eqvAll]
theorem dNe_nil (ds : List PyData) (h : SeqAt.shaped (.list ds) = true) : dNe (.list ds) (.list []) = .ok (.bool (!ds.isEmpty)) := by
  rw [dNe_shp h shaped_nilL]
  cases ds <;> simp [PyData.eqv, PyData.eqvAll]
@[simp] theorem dNeg_int : dNeg (.int a) = .ok (.int (-a)) := rfl
@[simp] theorem dIs_none : dIs x .none = .ok (.bool (isNone x)) := by cases x <;> rfl
@[simp] theorem dIsNot_none : dIsNot x .none = .ok (.bool (!isNone x)) := by cases x <;> rfl
end
theorem atI_of {α : Type} {xs : List α} {i : Nat} (h : i < xs.length) : atI xs (i : Int) = some xs[i] := atI_nat (by simp [h])
theorem dIx_list {xs : List PyData} {i : Nat} (h : i < xs.length) : dIx (.list xs) (.int (i : Int)) = .ok xs[i] := by
  unfold dIx
  dsimp only
  rw [atI_of h]
theorem dIx_tuple {xs : List PyData} {i : Nat} (h : i < xs.length) : dIx (.tuple xs) (.int (i : Int)) = .ok xs[i] := by
  unfold dIx
  dsimp only
  rw [atI_of h]
theorem dIx_any {xs : List PyData} {i : Int} (h0 : 0 ≤ i) (h1 : i < xs.length) : ∃ x, dIx (.list xs) (.int i) = .ok x ∧ x ∈ xs := by
  have h : i.toNat < xs.length := by omega
  refine ⟨xs[i.toNat], ?_, List.getElem_mem h⟩
  have e := dIx_list h
  rwa [show ((i.toNat : Nat) : Int) = i by omega] at e
section
variable {a b c d : PyData} {r : List PyData}
@[simp] theorem dIx_l0 : dIx (.list (a :: r)) (.int 0) = .ok a := dIx_list (i := 0) (by simp)
@[simp] theorem dIx_l1 : dIx (.list (a :: b :: r)) (.int 1) = .ok b := dIx_list (i := 1) (by simp)
@[simp] theorem dIx_l2 : dIx (.list (a :: b :: c :: r)) (.int 2) = .ok c := dIx_list (i := 2) (by simp)
@[simp] theorem dIx_t0 : dIx (.tuple (a :: r)) (.int 0) = .ok a := dIx_tuple (i := 0) (by simp)
@[simp] theorem dIx_t1 : dIx (.tuple (a :: b :: r)) (.int 1) = .ok b := dIx_tuple (i := 1) (by simp)
@[simp] theorem dIx_t2 : dIx (.tuple (a :: b :: c :: r)) (.int 2) = .ok c := dIx_tuple (i := 2) (by simp)
@[simp] theorem dIx_t3 : dIx (.tuple (a :: b :: c :: d :: r)) (.int 3) = .ok d := dIx_tuple (i := 3) (by simp)
@[simp] theorem toB_bool {b : Bool} : toB (.ok (.bool b)) = .ok b := rfl
@[simp] theorem gLen_list : gLen [.list r] = .ok (.int r.length) := rfl
@[simp] theorem gLen_tuple : gLen [.tuple r] = .ok (.int r.length) := rfl
@[simp] theorem gInt_bool {b : Bool} : gInt [.bool b] = .ok (.int (if b then 1 else 0)) := rfl
@[simp] theorem gInt_int {i : Int} : gInt [.int i] = .ok (.int i) := rfl
@[simp] theorem gAbs_int {i : Int} : gAbs [.int i] = .ok (.int (if i < 0 then -i else i)) := rfl
@[simp] theorem gMax2_int {i j : Int} : gMax2 [.int i, .int j] = .ok (.int (if j > i then j else i)) := rfl
@[simp] theorem gMin2_int {i j : Int} : gMin2 [.int i, .int j] = .ok (.int (if j < i then j else i)) := rfl
@[simp] theorem res_rt {d : PyData} : (Out.rt d).res = .ok d := rfl
@[simp] theorem res_nx {e : Ev} : (Out.nx e).res = .ok .none := rfl
@[simp] theorem res_ex {c : Nat} : (Out.ex c).res = .ex c := rfl
theorem isi_simp_int (d : PyData) : dIsi "int" d = .ok (.bool (is_int d)) := isi_int d
end
/-- a loop keeps what each turn keeps -/
theorem forF_inv {tg : GF} {body : SF} (I : Ev → Prop) : ∀ (ds : List PyData) (env : Ev), I env → (∀ d ∈ ds, ∀ env, I env → ∃ e1 e2, tg d env = some e1 ∧ body e1 = .nx e2 ∧ I e2) → ∃ e, forF tg body ds env = .nx e ∧ I e
  | [], env, h, _ => ⟨env, rfl, h⟩
  | d :: ds, env, h, hs => by
    obtain ⟨e1, e2, h1, h2, h3⟩ := hs d List.mem_cons_self env h
    obtain ⟨e, h4, h5⟩ := forF_inv I ds e2 h3 fun x hx => hs x (List.mem_cons_of_mem _ hx)
    refine ⟨e, ?_, h5⟩
    unfold forF
    rw [h1]
    dsimp only
    rw [h2, Out.loop_nx, h4]
theorem mem_rngF {lo : Int} {n : Nat} {d : PyData} (h : d ∈ rngF lo n) : ∃ k : Int, d = .int k ∧ lo ≤ k ∧ k < lo + n := by
  unfold rngF at h
  obtain ⟨i, hi, rfl⟩ := List.mem_map.mp h
  exact ⟨_, rfl, by omega, by have := List.mem_range.mp hi; omega⟩
end PL
/-! PL, part x: exceptions: raise, what runs while one is handled, try. -/
namespace PL
open PySem PySem.Spec PyProof.Rows L2

/-! ### raise -/
def veB : List Value := [.type "ValueError", .type "Exception", .type "BaseException", .type "object"]
structure ExcD (K : PySem.W.Frag) (mg : Str → Option Value) (ec : Nat → Addr) (x : Str) (c : Nat) : Prop where
  g : mg x = some (.ref (ec c))
  q : PySem.W.excIn K (ec c) veB "ValueError.__new__" = true
  k : PySem.W.keepIn K (.ref (ec c)) = true
  s : PySem.W.subIn K (.ref (ec c)) (.type "BaseException") = some true
  t : PySem.W.typeIn K (.ref (ec c)) = some (.type "type")
def sRaise (c : Nat) (_ : Ev) : Out := .ex c
theorem ss_raise {X : Cx} {ec : Nat → Addr} {W : WX} {G0 H0 : Hp} {x m : Str} {c j : Nat} {p p2 p3 pos : Pos} (D : ExcD X.K X.mg ec x c) (tk : L2N.Takes X W) (hc : X.calm = true) (hg : Gl X x := by rfl) (hdb : (x == ("__debug__" : Str)) = false := by decide) :
    PS X (.Raise (some (.Call (.Name x p) [.Constant (.str m) j p2] [] p3)) none pos) (tDS X.K ec W G0 H0 (sRaise c)) :=
  PS_imp (L2N.ps_raise hc tk (L2N.pmk_own PySem.F.excBase_ValueError D.q D.g D.k (raises_own D.s D.t) hg hdb)) fun Dd σ H ⟨G, env, S, p⟩ => p σ H S.x.h

/-! ### while an exception is handled: a list's end -/
section
variable {prog : Program} {w : World} {A : Around} {E : Value → Shared → Prop} {s : Shared}
theorem list_end_hot {it l x1 : Addr} {i : Nat} {items : Array Value} {Q : Option Value → Shared → Prop} (hot : HotX.HotAt A x1 s.heap) (hit : s.heap.IsListIter it l i) (hl : s.heap.IsList l items) (hx : items[i]? = none)
    (hQ : ∀ h', (∀ b o, b ≠ it → s.heap.get? b = some o → h'.get? b = some o) → Q none { s with heap := h' }) : wpAny (model prog w) A (pyNext (.ref it)) Q E s := by
  obtain ⟨o, ho, hc, hd⟩ := id hit
  obtain ⟨ol, hol, _, nl, hdl⟩ := hl
  obtain ⟨hh, o1, vs1, h1, d1, c1⟩ := hot
  have ne : x1 ≠ it := fun z => by
    subst z
    rw [ho] at h1
    cases h1
    rw [hd] at d1
    cases d1
    cases c1
  unfold pyNext
  refine wpAny_bind (wpAny_attempt (wpAny_callSpecial?_slot (name := Str.ofString "__next__") hit.typeIs slot_listiter_next (wpAny_call_entry slot_listiter_next hit.typeIs entry_listiter_next ?_ (args_listiter_next _))))
  show wpAny _ _ (field (.ref it) 0 >>= _) _ _ s
  refine wpAny_bind (wpAny_field ho hd (x := .ref l) rfl ?_)
  show wpAny _ _ (if (Value.ref l == Value.none) = true then _ else _) _ _ s
  rw [if_neg (show ¬ ((Value.ref l == Value.none) = true) from Bool.false_ne_true)]
  show wpAny _ _ (field (.ref it) 1 >>= _) _ _ s
  refine wpAny_bind (wpAny_field ho hd (x := .int i 0) rfl ?_)
  show wpAny _ _ (seqItems? (.ref l) >>= _) _ _ s
  refine wpAny_bind (wpAny_seqItems hol hdl ?_)
  simp only [Int.toNat_natCast, hx]
  refine wpAny_bind (wpAny_rule (wpAny_bind (wpAny_setField ho hd (by simp) ?_)))
  have h1' := (Heap.get?_update_other s.heap (Obj.mapFields (·.setIfInBounds 0 Value.none)) (Ne.symm ne)).trans h1
  show wpAny _ _ (newExc (.type "StopIteration") [] >>= _) _ _ _
  refine wpAny_bind ?_
  simp only [newExc, newTuple]
  refine wpAny_bind (wpAny_newObj_type ?_ (by size_fits))
  refine wpAny_bind (m := firstArgMember _ _) (wpAny_of_eq (a := Value.none) (by first | rfl | (simp only [firstArgMember]; rfl)) ?_)
  refine wpAny_newObj_type ?_ (by size_fits)
  refine HotX.raiseNew_hot ⟨hh, o1, vs1, Heap.get?_push_of_some _ (Heap.get?_push_of_some _ h1'), d1, c1⟩ (Nat.ne_of_lt (Heap.lt_size (Heap.get?_push_of_some _ h1'))) (Heap.get?_push_size _ rfl) rfl (by first | (simp; done) | (simp; omega)) ?_
  refine wpAny_bind (wpAny_isInstance (T := "StopIteration") (b := true) ⟨_, Heap.get?_update_self _ (Heap.get?_push_size _ rfl) rfl, rfl⟩ isSubtype_stop ?_)
  refine wpAny_pure (hQ _ fun b o hb e => ?_)
  have e' := (Heap.get?_update_other s.heap (Obj.mapFields (·.setIfInBounds 0 Value.none)) (Ne.symm hb)).trans e
  rw [Heap.get?_update_other _ _ (Nat.ne_of_gt (Heap.lt_size (Heap.get?_push_of_some _ e')))]
  exact Heap.get?_push_of_some _ (Heap.get?_push_of_some _ e')
/-- a list's walk there -/
theorem walks_hot {x1 : Addr} {o1 : Obj} {vs1 : Array Value} (hh : A.handled = some (.ref x1)) (d1 : o1.data = .fields vs1) (c1 : vs1[2]? = some .none) (I ax : Addr) (hne : ax ≠ I) (h1 : x1 ≠ I) (items : Array Value) :
    Walks prog w A I [I, ax, x1] [I] items.size (fun i v => items[i]? = some v) (fun i h => h.IsListIter I ax i ∧ h.IsList ax items ∧ h.get? x1 = some o1) where
  sub := fun b hb => by simp at hb; simp [hb]
  frame := fun _ _ _ st hk => ⟨st.1.at fun o e => hk I (by simp) o e, st.2.1.at fun o e => hk ax (by simp) o e, hk x1 (by simp) _ st.2.2⟩
  item := fun i s Q E hi st hQ => by
    refine wpAny_pyNext_list_item st.1 st.2.1 (x := items[i]) (by simp [hi]) fun h' hit' hs' => ?_
    exact hQ _ h' s.toks (by simp [hi]) ⟨hit', st.2.1.extBut hs'.extBut hne, hs'.extBut x1 _ h1 st.2.2⟩ fun b o hb e => hs'.extBut b o (fun h => hb (by simp [h])) e
  done := fun s Q E st hQ => list_end_hot ⟨hh, o1, vs1, st.2.2, d1, c1⟩ st.1 st.2.1 (by simp) fun h' he' => hQ h' s.toks fun b o hb e => he' b o (fun h => hb (by simp [h])) e
  self := fun _ _ _ _ st hQ => wpAny_pyIter_listiter st.1 hQ
end
section
variable {X : Cx}
theorem preSum_list (ns : List Int) : ∀ n, n ≤ ns.length → preSum (fun i => ns.getD i 0) n = (ns.take n).sum
  | 0, _ => by simp [preSum]
  | n + 1, h => by
    rw [preSum, preSum_list ns n (by omega), List.take_add_one (l := ns) (i := n)]
    have : ns[n]? = some ns[n] := by simp
    rw [this]
    show _ = (ns.take n ++ [ns[n]]).sum
    rw [List.sum_append]
    simp [List.getD, this]
theorem cr_sumH (hc : L2H.HotC X) : CallR X (.builtin "sum") (rSum X.K) := by
  intro pins s σ H vs us Q I r h
  obtain ⟨a, ns, rfl, hs, q⟩ := h
  obtain ⟨its, rv, hl, _⟩ := I.list hs
  rw [Vals.ref1 r]
  obtain ⟨p, ⟨hh, v1, e1, c1⟩, hp⟩ := hc
  have P1 := (I.pin p (List.mem_append_left _ hp)).1
  have hlI := hl.isList
  have hlt : a < s.heap.objs.size := by obtain ⟨_, e, _⟩ := hlI; exact Heap.lt_size e
  have hpt : p.1 < s.heap.objs.size := Heap.lt_size P1
  refine call_sum_walkG (A := X.A) (wpAny_pyIter_list hlI ?_)
  refine ⟨_, [s.heap.objs.size, a, p.1], _, _, _, _, fun i => ns.getD i 0, rfl, walks_hot (A := X.A.in1) hh e1 c1 s.heap.objs.size a (Nat.ne_of_lt hlt) (Nat.ne_of_lt hpt) its.toArray, ⟨⟨_, Heap.get?_push_size _ rfl, rfl, rfl⟩, hlI.push _, Heap.get?_push_of_some _ P1⟩, fun b hb => ?_, fun i v hv => ?_, fun h' tk t' hk => ?_⟩
  · show b < (s.heap.push _).objs.size
    rw [Heap.size_push]
    simp only [List.mem_cons, List.not_mem_nil, or_false] at hb
    rcases hb with rfl | rfl | rfl
    · exact Nat.lt_succ_self _
    · exact Nat.lt_succ_of_lt hlt
    · exact Nat.lt_succ_of_lt hpt
  · have hv : its[i]? = some v := by simpa using hv
    have hi : i < its.length := (List.getElem?_eq_some_iff.mp hv).1
    have hln := rv.length
    rw [List.length_map] at hln
    have hx : (ns.map V.int)[i]? = some (V.int (ns.getD i 0)) := by
      rw [List.getElem?_map]
      have : ns[i]? = some (ns[i]'(by omega)) := by simp
      rw [this]
      simp [List.getD, this]
    obtain ⟨u, hu, ru⟩ := rv.get hx
    rw [hv] at hu
    cases hu
    exact ru
  · have hln := rv.length
    rw [List.length_map] at hln
    have e : preSum (fun i => ns.getD i 0) its.toArray.size = ns.sum := by
      rw [preSum_list ns _ (by simp; omega)]
      simp [← hln]
    rw [e]
    refine ⟨.int _, H, I.kept fun b o e => hk b o (fun hm => ?_) (Heap.get?_push_of_some _ e), ⟨_, rfl⟩, q⟩
    have hz := Heap.lt_size e
    have hb : b = s.heap.objs.size := by simpa using hm
    rw [hb] at hz
    exact absurd hz (Nat.lt_irrefl _)
end

/-! ### a comprehension there, over a list, its turns leave the heap -/
def tLcH (K : PySem.W.Frag) (tl te : TE) (i0 : Nat) (vs : List Nat) : TE := fun σ H Q => tl σ H fun x H1 => ∃ a xs ys, x = .ref a ∧ LsL K H1 a xs ∧ ys.length = xs.length ∧
  (∀ (i : Nat) (x y : V), xs[i]? = some x → ys[i]? = some y → ∀ H', te ((wipe σ vs).set i0 (some x)) H' fun z H2 => z = y ∧ H2 = H') ∧ ∀ D, H1 D = none → Q (.ref D) (upd H1 D (.lst ys))
theorem upd_upd {H : Hp} {a : Addr} {o o' : HO} : upd (upd H a o) a o' = upd H a o' := by
  funext b
  by_cases h : b = a
  · subst h; rw [upd_same, upd_same]
  · rw [upd_ne h, upd_ne h, upd_ne h]
section
variable {X : Cx}
theorem pe_lcH {elt l : Expr} {y : Str} {i0 : Nat} {scope : Scope} {own : List (Str × Nat)} {pos qp : Pos} {tl te : TE} (hc : L2H.HotC X) (hN : X.N.Nodup) (hl : PE X l tl) (ok : BlkOk X.N X.env.scope scope own) (hi0 : i0 ∈ own.map (·.2))
    (hg : ∀ (s : Shared) (H : Hp) (C : Addr) (cl : List (Str × Addr)) (fp : List Addr), PG (X.blk s H scope (compEnvC scope cl C X.env) fp) (.Name y qp) (gName i0))
    (he : ∀ (s : Shared) (H : Hp) (C : Addr) (cl : List (Str × Addr)) (fp : List Addr), PE (X.blk s H scope (compEnvC scope cl C X.env) fp) elt te) (hs : ∀ x, foldedSetIterable l X.env x = pure x := by intro _; rfl) :
    PE X (.ListComp elt [⟨.Name y qp, l, [], 0⟩] scope pos) (tLcH X.K tl te i0 (own.map (·.2))) := by
  refine ⟨fun pins s σ H Q I h => ?_⟩
  rw [eval_ListComp]
  have hfree : ∀ y ∈ scope.names, y.2 = .free → ∃ c, X.env.cells.lookup y.1 = some c := fun y hy e => (ok.free y hy e).elim (fun k => I.ok.has _ (.inl k)) fun k => I.ok.has _ (.inr k)
  refine wpAny_comprehension_free (use := none) rfl hs (closure_ok hfree) ok.kind (fun y hy e => by rw [ok.uniq y hy, e])
    (thn (hl.run pins s σ H _ I h) fun xv s1 hx => ?_)
  obtain ⟨x, H1, I1, r1, a, xs, ys, rfl, hq, hyl, hturn, hend⟩ := hx
  cases r1
  obtain ⟨its, rv, p, hz⟩ := I1.list hq.sq
  refine wpAny_pyIter_list p.isList ?_
  have hxl := rv.length
  -- the iterator
  generalize hit : s1.heap.objs.size = it
  generalize hs2 : ({ s1 with heap := s1.heap.push { cls := .type "list_iterator", data := .fields #[.ref a, .int 0 0] } } : Shared) = s2
  have e2 : s2.heap = s1.heap.push { cls := .type "list_iterator", data := .fields #[.ref a, .int 0 0] } := by rw [← hs2]
  have I2 : Inv X pins σ H1 s2 := by
    rw [← hs2]
    exact I1.kept (t' := s1.toks) fun b o e => Heap.get?_push_of_some _ e
  have st2 : s2.heap.IsListIter it a 0 := by
    rw [e2, ← hit]
    exact ⟨_, Heap.get?_push_size _ rfl, rfl, rfl⟩
  have fIt : FpOk X pins H1 it := by
    rw [← hit]
    exact I1.fpOk (Nat.le_refl _) (I1.hok.fresh (Nat.le_refl _))
  have ltIt : it < s2.heap.objs.size := by
    rw [e2, Heap.size_push, ← hit]
    exact Nat.lt_succ_self _
  refine wpAny_newObj_type (newEnv_comp ?_) (by show 0 ≤ sizeLine; decide)
  generalize hD : s2.heap.objs.size = D
  have hDn : H1 D = none := I2.hok.fresh (Nat.le_of_eq hD)
  generalize hs3 : ({ s2 with heap := s2.heap.push { cls := .type "list", data := .seq ([] : List Value).toArray } } : Shared) = s3
  have e3 : s3.heap = s2.heap.push { cls := .type "list", data := .seq ([] : List Value).toArray } := by rw [← hs3]
  have I3 : Inv X pins σ (upd H1 D (.lst [])) s3 := by
    rw [← hs3]
    refine I2.laid (t' := s2.toks) (fun b o e => Heap.get?_push_of_some _ e) (Nat.le_of_eq hD) ⟨Nat.zero_le _, [], 0, .nil, ?_⟩
    rw [← hD]
    exact Heap.get?_push_size _ rfl
  have ne1 : it ≠ D := by rw [← hD]; exact Nat.ne_of_lt ltIt
  have f3 : ∀ b ∈ [it], FpOk X pins (upd H1 D (.lst [])) b ∧ b < s3.heap.objs.size := fun b hb => by
    have e : b = it := by simpa using hb
    subst e
    refine ⟨⟨?_, fIt.2⟩, by rw [e3, Heap.size_push]; exact Nat.lt_succ_of_lt ltIt⟩
    rw [upd_ne ne1]
    exact fIt.1
  have st3 : s3.heap.IsListIter it a 0 := st2.at fun o e => by rw [e3]; exact Heap.get?_push_of_some _ e
  have I4 := block_start I3 ok hN f3
  have pg := hg s3 (upd H1 D (.lst [])) s3.heap.objs.size (cellsFrom (s3.heap.objs.size + 1) scope.names (cloFrom X.env.cells scope.names [])) [it]
  have pe := he s3 (upd H1 D (.lst [])) s3.heap.objs.size (cellsFrom (s3.heap.objs.size + 1) scope.names (cloFrom X.env.cells scope.names [])) [it]
  show codeAny _ _ (.compStart (.ListComp elt [⟨.Name y qp, l, [], 0⟩] scope pos) 0 (.ref it) (.ref D) (compEnvC scope (cellsFrom (s3.heap.objs.size + 1) scope.names (cloFrom X.env.cells scope.names [])) s3.heap.objs.size X.env)) (compPost (model X.prog X.w) X.A X.xe none _ (.ref D) s3.heap.objs.size) { s3 with heap := pushCells (s3.heap.push { cls := .type "dict", data := .dict #[] }) scope.names }
  -- the handled exception
  obtain ⟨hp, ⟨hh, v1, d1, c1⟩, hpn⟩ := hc
  have P3 := I3.pin hp (List.mem_append_left _ hpn)
  have hpIt : hp.1 ≠ it := fun z => by
    have q1 := (I1.pin hp (List.mem_append_left _ hpn)).1
    have := Heap.lt_size q1
    rw [z, ← hit] at this
    exact absurd this (Nat.lt_irrefl _)
  generalize hce : compEnvC scope (cellsFrom (s3.heap.objs.size + 1) scope.names (cloFrom X.env.cells scope.names [])) s3.heap.objs.size X.env = ce at I4 pg pe ⊢
  have cL : ce.locals = s3.heap.objs.size := by subst hce; rfl
  generalize hH3 : upd H1 D (.lst []) = H3 at I3 I4 pg pe f3 P3
  generalize hs4 : ({ s3 with heap := pushCells (s3.heap.push { cls := .type "dict", data := .dict #[] }) scope.names } : Shared) = s4 at I4 ⊢
  have st4 : s4.heap.IsListIter it a 0 := st3.at fun o e => by rw [← hs4]; exact pushCells_keeps _ _ _ _ (Heap.get?_push_of_some _ e)
  have hot : ∀ {σ' : L2.St} {H' : Hp} {s' : Shared} {ps : List (Addr × Obj)}, Inv (X.blk s3 H3 scope ce [it]) ps σ' H' s' → HotX.HotAt X.A hp.1 s'.heap := fun {σ' H' s' ps} I' =>
    ⟨hh, hp.2, v1, I'.base.keep hp.1 hp.2 P3.1 P3.2.1 (fun hm => (List.mem_cons.mp (I3.stkSub hp.1 hm)).elim P3.2.2.1 P3.2.2.2.1) (show hp.1 ∉ [it] by simpa using hpIt), d1, c1⟩
  have stat : ∀ {σ' : L2.St} {H' : Hp} {s' : Shared}, Inv (X.blk s3 H3 scope ce [it]) [] σ' H' s' → H' it = none → FpOk (X.blk s3 H3 scope ce [it]) [] H' it := fun {σ' H' s'} I' hn =>
    ⟨hn, (I'.ok.exf it (by show it ∈ [it]; simp)).1, I'.ok.exfs it (by show it ∈ [it]; simp), .inl (by show it ∈ [it]; simp), fun x c e => (I'.ok.exf it (by show it ∈ [it]; simp)).2 x c e, fun p hp => absurd (show p ∈ ([] : List (Addr × Obj)) ++ [] from hp) (by simp)⟩
  have lsD : ∀ zs : List V, LsL X.K (upd H1 D (.lst zs)) a xs := fun zs => ls_same (same_new hDn) hq
  have frD : ∀ zs : List V, (upd H1 D (.lst zs)) it = none := fun zs => by rw [upd_ne ne1]; exact fIt.1
  have loop : codeAny (model X.prog X.w) X.A (.compLoop (.ListComp elt [⟨.Name y qp, l, [], 0⟩] scope pos) 0 (.ref it) (.ref D) ce) (compPost (model X.prog X.w) X.A X.xe none (EP X pins σ Q) (.ref D) s3.heap.objs.size) s4 := by
    refine compLoop_any (fun n s' => ∃ i, i + n = ys.length ∧ Inv (X.blk s3 H3 scope ce [it]) [] (wipe σ (own.map (·.2))) (upd H1 D (.lst (ys.take i))) s' ∧ s'.heap.IsListIter it a i) ?_ ys.length ⟨0, Nat.zero_add _, by rw [List.take_zero, hH3]; exact I4, st4⟩
    rintro n s5 ⟨i, hn, I5, st5⟩
    obtain ⟨its5, rv5, p5, _⟩ := I5.list (lsD _).sq
    have hl5 := rv5.length
    have fp5 := stat I5 (frD _)
    cases n with
    | zero =>
      refine list_end_hot (hot I5) st5 p5.isList (by simp; omega) fun h6 kp => ?_
      obtain ⟨f0, f1, f2, f3', f4, f5⟩ := fp5
      have I6 := I5.turned (h' := h6) (t' := s5.toks) (fun b o hb e => kp b o hb e) f0 f1 f3' f4 f5
      have I7 : Inv X pins σ (upd H1 D (.lst (ys.take i))) { s5 with heap := h6 } := I3.call' (ch := [it]) I6.os I6.base I6.hok I6.bare fun b hb => ⟨(f3 b hb).1.2.2.2.1, (f3 b hb).1.2.1, (f3 b hb).1.2.2.2.2.1, (f3 b hb).1.2.2.2.2.2⟩
      have hi : i = ys.length := by omega
      subst hi
      rw [List.take_length] at I6 I7
      have nC : (upd H1 D (.lst ys)) s3.heap.objs.size = none := by
        have z := I6.free
        rw [show (X.blk s3 H3 scope ce [it]).env.locals = ce.locals from rfl, cL] at z
        exact z
      obtain ⟨m, hm, _⟩ := I6.loc
      have hm : ({ s5 with heap := h6 } : Shared).heap.Ns ce.locals m := hm
      rw [cL] at hm
      refine ⟨m, hm, fun h'' sb => ?_⟩
      obtain ⟨g0, g1, g2, g3, g4, g5⟩ := I3.fpOk (b := s3.heap.objs.size) (Nat.le_refl _) (I3.hok.fresh (Nat.le_refl _))
      exact ⟨.ref D, _, I7.turned (t' := s5.toks) (fun b o hb e => (sb.2 b hb).trans e) nC g1 g3 g4 g5, rfl, hend D hDn⟩
    | succ n =>
      have hi : i < ys.length := by omega
      have hxi : xs[i]? = some (xs[i]'(by omega)) := by simp
      have hyi : ys[i]? = some ys[i] := by simp
      obtain ⟨u, hu, ru⟩ := rv5.get hxi
      refine wpAny_pyNext_list_item st5 p5.isList (x := u) (by simpa using hu) fun h6 st6 sb => ?_
      obtain ⟨f0, f1, f2, f3', f4, f5⟩ := id fp5
      have I6 := I5.turned (h' := h6) (t' := s5.toks) (fun b o hb e => (sb.2 b hb).trans e) f0 f1 f3' f4 f5
      obtain ⟨o6, q1, q2, q3⟩ := id st6
      refine go_of (s := { s5 with heap := h6 }) q1 q2 q3 (by decide) ?_
      have I6' := I6.pinned (fp := [it]) (fun b hb => by
        have e : b = it := by simpa using hb
        subst e
        exact stat I6 (frD _)) (fun b hb => by
        have e : b = it := by simpa using hb
        subst e
        exact ⟨o6, q1, fun v z => by rw [q3] at z; cases z⟩)
      refine thnF (pg.run _ _ _ _ xs[i] u (fun σ2 H2 => σ2 = (wipe σ (own.map (·.2))).set i0 (some xs[i]) ∧ H2 = upd H1 D (.lst (ys.take i))) I6' ru ⟨rfl, rfl⟩) fun _ s8 ⟨σ8, H8, I8, e8, eh8⟩ => ?_
      subst e8 eh8
      refine wpAny_tests_nil ?_
      simp only [if_true]
      refine thnF (pe.run _ s8 _ _ _ I8 (hturn i _ _ hxi hyi _)) fun z s10 ⟨yv, H10, I10, r10, ey, eh⟩ => ?_
      subst ey eh
      refine app_ok (X := X.blk s3 H3 scope ce [it]) I10 upd_same (by rw [List.length_take]; exact Nat.lt_of_le_of_lt (Nat.min_le_left _ _) (Nat.lt_of_lt_of_le hi (by rw [hyl]; exact hz))) r10 fun s11 I11 => ?_
      rw [upd_upd] at I11
      have et : ys.take i ++ [ys[i]] = ys.take (i + 1) := by rw [List.take_add_one, hyi]; rfl
      rw [et] at I11
      refine ⟨n, Nat.lt_succ_self _, i + 1, by omega, (I11.unpinned (pins := [])).weak (by rw [List.length_set]) (fun j v e => ?_), ?_⟩
      · by_cases hj : j = i0
        · subst hj
          rw [wipe_get, if_pos hi0] at e
          cases h : σ[j]? with
          | none => rw [h] at e; cases e
          | some _ => rw [h] at e; cases e
        · rw [List.getElem?_set_ne (Ne.symm hj)]; exact e
      · refine st6.at fun o e => ?_
        exact (I11.pin (it, o) (List.mem_append_right _ (List.mem_append_right _ (mem_pinsAt (by simp) e)))).1
  exact codeAny_compStart_list loop (wpAny_pyIter_listiter st4 loop)
end
end PL
/-! PL, part y: a def that tells a word of the handled exception. -/
namespace PL
open PySem PySem.Spec PyProof.Rows L2

/-- the context bears the exception p of class D -/
structure HeldE (X : Cx) (p : Addr × Obj) (D : Addr) : Prop where
  hp : p ∈ X.pn
  hot : L2H.Hot1 X.A p
  cls : ExcC X.K D
  z : Zc (.ref D) none p.2
  f : ∃ vs, p.2.data = .fields vs
section
variable {X : Cx} {p : Addr × Obj} {D : Addr}
theorem HeldE.hc (h : HeldE X p D) : L2H.HotC X := ⟨p, h.hot, h.hp⟩
theorem call_isW (h : HeldE X p D) : CallR X (.builtin "isinstance") (rIsE X.K D p.1) := by
  intro pins s σ H xs us Q I r q
  obtain ⟨c, cv, b, rfl, hcv, e, q⟩ := q
  obtain ⟨a, oe⟩ := p
  obtain ⟨oc, od, oda, osl⟩ := oe
  obtain ⟨⟨h1, h2⟩, vs, hv⟩ := h.z, h.f
  cases r with
  | cons rx rr =>
    cases rr with
    | cons rt rr =>
      cases rr
      cases rx
      have ec := hcv _ rt
      subst ec
      have hget := (I.pin _ (List.mem_append_left _ h.hp)).1
      dsimp only at h1 h2 hv
      subst h1 h2 hv
      have J : PySem.W.InstAt s.heap a ⟨.ref D, none, .fields vs, osl⟩ D none := ⟨hget, rfl, rfl, trivial⟩
      have C := h.cls
      exact PySem.W.kia_one (PySem.W.handS_kitx_exc C.hg C.hk C.hs C.hd C.ha C.hn C.ht C.hm) I.kIn J e (fun z => nomatch z) fun tk => ⟨.bl b, H, I.kept (t' := tk) fun _ _ z => z, rfl, q⟩
/-- isinstance(e, C), e in slot 0 -/
def tIs (a : Addr) (b : Bool) : TE := fun σ H Q => σ[0]? = some (some (.ref a)) ∧ Q (.bl b) H
/-- the name x is the class cv -/
inductive ClsNm (X : Cx) (x : Str) (cv : Value) : Prop where
  | own {C : Addr} (e : cv = .ref C) (g : X.mg x = some (.ref C))
  | blt {T : String} (e : cv = .type T) (g : X.mg x = none) (b : bootBuiltins x = some (.type T))
theorem pe_isW {e x : Str} {cv : Value} {b : Bool} {p1 p2 p3 p4 : Pos} (h : HeldE X p D) (hg : Gl X "isinstance") (hm : X.mg "isinstance" = none) (hN : X.N[0]? = some e) (hv : Vis X.env.scope e) (hgx : Gl X x) (hx : ClsNm X x cv) (hk : PySem.W.kitOne X.K (.ref D) cv = some b)
    (hd : (e == ("__debug__" : Str)) = false := by decide) (hcd : (e == ("__classdict__" : Str)) = false := by decide) (hnx : x ≠ "__name__" := by decide) (hdx : (x == ("__debug__" : Str)) = false := by decide)
    (he : starEach [.Name e p2, .Name x p3] X.env = (false, eval (.Name e p2) X.env) :: starEach [.Name x p3] X.env := by rfl) : PE X (.Call (.Name "isinstance" p1) [.Name e p2, .Name x p3] [] p4) (tIs p.1 b) := by
  have fin : ∀ (c : V), (∀ u, RelV c u → u = cv) → PE X (.Name x p3) (tC c) → PE X (.Call (.Name "isinstance" p1) [.Name e p2, .Name x p3] [] p4) (tIs p.1 b) := fun c hc pc =>
    PE_imp (pe_callB (t := tCons (tVar 0) (tCons (tC c) tNil)) (call_isW h) hg hm (by decide +kernel) (pa_cons (pe_var hN hv hd hcd) (pa_cons pc pa_nil rfl) he) (by decide) (by decide) he rfl) fun σ H Q ⟨h0, q⟩ => ⟨_, h0, c, cv, b, rfl, hc, hk, q⟩
  cases hx with
  | own e g => subst e; exact fin (.ref _) (fun u r => r) (pe_glob hgx g rfl hdx)
  | blt e g bb => subst e; exact fin (.ty _) (fun u r => r) (pe_bltn hgx g bb rfl hnx hdx)
def tIsL (a : Addr) (bs : List Bool) : TA := fun σ H Q => σ[0]? = some (some (.ref a)) ∧ Q (bs.map V.bl) H
theorem pa_isN {a : Addr} : PA X [] (tIsL a []) := ⟨fun pos pins s σ H Q I q => pa_nil.run pos pins s σ H Q I q.2⟩
theorem pa_isC {a : Addr} {b : Bool} {bs : List Bool} {e : Expr} {es : List Expr} (h1 : PE X e (tIs a b)) (h2 : PA X es (tIsL a bs)) (he : starEach (e :: es) X.env = (false, eval e X.env) :: starEach es X.env := by rfl) : PA X (e :: es) (tIsL a (b :: bs)) :=
  ⟨fun pos pins s σ H Q I q => (pa_cons h1 h2 he).run pos pins s σ H Q I ⟨q.1, q.1, q.2⟩⟩
end

/-- texts -/
def tStrs (ws : List Str) : TA := fun _ H Q => Q (ws.map V.str) H
section
variable {X : Cx}
theorem pa_strN : PA X [] (tStrs []) := ⟨fun pos pins s σ H Q I q => pa_nil.run pos pins s σ H Q I q⟩
theorem pa_strC {x : Str} {ws : List Str} {j : Nat} {p : Pos} {es : List Expr} (h2 : PA X es (tStrs ws)) (he : starEach (.Constant (.str x) j p :: es) X.env = (false, eval (.Constant (.str x) j p) X.env) :: starEach es X.env := by rfl) : PA X (.Constant (.str x) j p :: es) (tStrs (x :: ws)) :=
  ⟨fun pos pins s σ H Q I q => (pa_cons pe_str h2 he).run pos pins s σ H Q I q⟩
end

/-! ### the def's states -/
structure W1 (K : PySem.W.Frag) (a : Addr) (H0 : Hp) (n i : Nat) (fl : List Bool) (σ : L2.St) (H : Hp) : Prop where
  len : σ.length = n
  e : σ[0]? = some (some (.ref a))
  s : Same H0 H
  l : ∃ l, σ[i]? = some (some (.ref l)) ∧ LsL K H l (fl.map V.bl)
section
variable {X : Cx} {p : Addr × Obj} {D : Addr} {H0 : Hp} {n i j c : Nat} {fl bs : List Bool} {es : List Expr} {x y z : Str} {pos p1 p2 p3 p4 p5 p6 p7 p8 : Pos}
/-- flags = [..] -/
theorem sw_new (hN : X.N.Nodup) (ha : PA X es (tIsL p.1 fl)) (hi : X.N[i]? = some x) (hx : Loc X.env.scope x) (hlt : i < n) (h0 : 0 ≠ i) (hl : fl.length ≤ 1000) (hs : swapsWith (.List es p2) (some (.Name x p1)) pos.line X.env = pure false := by rfl) (hf : X.fn x = true ∨ X.env.scope.names.lookup x = some .local := by first | exact .inl rfl | exact .inr rfl) :
    PS X (.Assign [.Name x p1] (.List es p2) pos) (fun D σ H => (σ.length = n ∧ σ[0]? = some (some (.ref p.1)) ∧ Same H0 H) ∧ ∀ σ' H', W1 X.K p.1 H0 n i fl σ' H' → D.nx σ' H') :=
  PS_imp (ps_set (i := i) hN hi hx (pe_lst ha) hs hf) fun D σ H ⟨⟨h1, h2, h3⟩, k⟩ => ⟨h2, Nat.le_of_lt (small1000 (by rw [List.length_map]; exact hl)), fun l hl => k _ _ ⟨by rw [List.length_set]; exact h1, by rw [List.getElem?_set_ne (Ne.symm h0)]; exact h2, h3.trans (same_new hl), l, List.getElem?_set_self (by rw [h1]; exact hlt), .of upd_same⟩⟩
/-- flags = flags + [..] -/
theorem sw_more (hN : X.N.Nodup) (ha : PA X es (tIsL p.1 bs)) (hi : X.N[i]? = some x) (hx : Loc X.env.scope x) (hv : Vis X.env.scope x) (hlt : i < n) (h0 : 0 ≠ i) (hl : fl.length + bs.length ≤ 1000) (hd : (x == ("__debug__" : Str)) = false := by decide) (hcd : (x == ("__classdict__" : Str)) = false := by decide)
    (hs : swapsWith (.BinOp (.Name x p3) .Add (.List es p2) p4) (some (.Name x p1)) pos.line X.env = pure false := by rfl) (hf : X.fn x = true ∨ X.env.scope.names.lookup x = some .local := by first | exact .inl rfl | exact .inr rfl) :
    PS X (.Assign [.Name x p1] (.BinOp (.Name x p3) .Add (.List es p2) p4) pos) (fun D σ H => W1 X.K p.1 H0 n i fl σ H ∧ ∀ σ' H', W1 X.K p.1 H0 n i (fl ++ bs) σ' H' → D.nx σ' H') :=
  PS_imp (ps_set (i := i) hN hi hx (pe_op op_catR (pe_var hi hv hd hcd) (pe_lst ha)) hs hf) fun D σ H ⟨w, k⟩ => by
    obtain ⟨l, h1, h2⟩ := w.l
    refine ⟨_, h1, w.e, Nat.le_of_lt (small1000 (by rw [List.length_map]; omega)), fun l2 n2 => ⟨l, l2, fl.map V.bl, bs.map V.bl, rfl, rfl, ls_same (same_new n2) h2, .of upd_same, Nat.le_of_lt (small1000 (by rw [List.length_map, List.length_map]; exact hl)), fun l3 n3 => k _ _ ⟨by rw [List.length_set]; exact w.len, by rw [List.getElem?_set_ne (Ne.symm h0)]; exact w.e, (w.s.trans (same_new n2)).trans (same_new n3), l3, List.getElem?_set_self (by rw [w.len]; exact hlt), .of ?_⟩⟩⟩
    rw [List.map_append]
    exact upd_same
/-- how many are so -/
def cntB (fl : List Bool) : Int := (fl.map fun b => if b then (1 : Int) else 0).sum
/-- if sum([int(flag) for flag in flags]) != 1 or not isinstance(e, ValueError): return .. -/
theorem sw_if {ev yf : Str} {scope : Scope} {own : List (Str × Nat)} {q1 q2 q3 q4 q5 q6 q7 q8 q9 q10 : Pos} {j1 : Nat} {retS : List Stmt} {tr : TS} (h : HeldE X p D) (hN : X.N.Nodup) (hi : X.N[i]? = some x) (hv : Vis X.env.scope x) (hc : X.N[c]? = some yf) (hlc : c < n) (hic : c ≠ i) (h0c : c ≠ 0)
    (hsum : Gl X "sum" ∧ X.mg "sum" = none) (hint : ∀ (s : Shared) (H : Hp) (C : Addr) (cl : List (Str × Addr)) (fp : List Addr), Gl (X.blk s H scope (compEnvC scope cl C X.env) fp) "int") (hint2 : X.mg "int" = none)
    (ok : BlkOk X.N X.env.scope scope own) (hown : own.map (·.2) = [c])
    (hg : ∀ (s : Shared) (H : Hp) (C : Addr) (cl : List (Str × Addr)) (fp : List Addr), PG (X.blk s H scope (compEnvC scope cl C X.env) fp) (.Name yf q1) (gName c))
    (hvf : ∀ (s : Shared) (H : Hp) (C : Addr) (cl : List (Str × Addr)) (fp : List Addr), PE (X.blk s H scope (compEnvC scope cl C X.env) fp) (.Name yf q2) (tVar c))
    (hb : PE X (.Call (.Name "isinstance" p1) [.Name ev p2, .Name y p3] [] p4) (tIs p.1 true)) (hr : PSs X retS tr)
    (hone : cntB fl = 1) (hd : (x == ("__debug__" : Str)) = false := by decide) (hcd : (x == ("__classdict__" : Str)) = false := by decide)
    (he : ∀ (s : Shared) (H : Hp) (C : Addr) (cl : List (Str × Addr)) (fp : List Addr), starEach [.Name yf q2] (X.blk s H scope (compEnvC scope cl C X.env) fp).env = (false, eval (.Name yf q2) (X.blk s H scope (compEnvC scope cl C X.env) fp).env) :: starEach [] (X.blk s H scope (compEnvC scope cl C X.env) fp).env := by intros; rfl)
    (he2 : starEach [.ListComp (.Call (.Name "int" q3) [.Name yf q2] [] q4) [⟨.Name yf q1, .Name x q5, [], 0⟩] scope q6] X.env = (false, eval (.ListComp (.Call (.Name "int" q3) [.Name yf q2] [] q4) [⟨.Name yf q1, .Name x q5, [], 0⟩] scope q6) X.env) :: starEach [] X.env := by rfl) :
    PS X (.If (.BoolOp .Or [.Compare (.Call (.Name "sum" q7) [.ListComp (.Call (.Name "int" q3) [.Name yf q2] [] q4) [⟨.Name yf q1, .Name x q5, [], 0⟩] scope q6] [] q8) [.NotEq] [.Constant (.int 1) j1 q9] q10, .UnaryOp .Not (.Call (.Name "isinstance" p1) [.Name ev p2, .Name y p3] [] p4) p5] p6) retS [] pos)
      (fun D σ H => W1 X.K p.1 H0 n i fl σ H ∧ ∀ σ' H', W1 X.K p.1 H0 n i fl σ' H' → D.nx σ' H') := by
  have lc := pe_lcH (i0 := c) (y := yf) (qp := q1) (pos := q6) (elt := .Call (.Name "int" q3) [.Name yf q2] [] q4) h.hc hN (pe_var (pos := q5) hi hv hd hcd) ok (by rw [hown]; simp) hg
    (fun s H C cl fp => pe_callTy (t := tCons (tVar c) tNil) (x := "int") (p := q3) (pos := q4) call_int1 (hint s H C cl fp) hint2 (by decide +kernel) (pa_cons (hvf s H C cl fp) pa_nil (he s H C cl fp)) (he := he s H C cl fp) (hpl := rfl))
  have cmp := pt_cmpR (op := .NotEq) (pos := q10) op_ne (pe_callB (p := q7) (pos := q8) (cr_sumH h.hc) hsum.1 hsum.2 (by decide +kernel) (pa_cons lc pa_nil he2) (by decide) (by decide) he2 rfl) (pe_int (i := 1) (j := j1) (pos := q9)) (nomark _)
  refine PS_imp (ps_if (PW.pt (pw_or (pos := p6) cmp (pw_or1 (pos := p6) (pt_not (pos := p5) (pt_val hb))))) hr pss_nil) fun D σ H ⟨w, k⟩ => ?_
  obtain ⟨l, h1, h2⟩ := w.l
  rw [hown]
  refine ⟨_, h1, l, fl.map V.bl, (fl.map fun b => if b then (1 : Int) else 0).map V.int, rfl, h2, by simp, fun m x' y' e1 e2 H' => ?_, fun L nL => ⟨L, fl.map fun b => if b then (1 : Int) else 0, rfl, .inl (.inl upd_same), ?_⟩⟩
  · rw [List.getElem?_map] at e1
    rw [List.getElem?_map, List.getElem?_map] at e2
    cases q : fl[m]? with
    | none => rw [q] at e1; cases e1
    | some b =>
      rw [q] at e1 e2
      cases e1
      cases e2
      refine ⟨_, List.getElem?_set_self ?_, .inr ⟨b, rfl, rfl, rfl⟩⟩
      rw [wipe_length, w.len]
      exact hlc
  · refine ⟨rfl, ?_⟩
    have e1 : (fl.map fun b => if b then (1 : Int) else 0).sum = 1 := hone
    rw [e1]
    refine ⟨false, by simp, ?_⟩
    refine ⟨w.e, ?_⟩
    refine ⟨true, rfl, ?_⟩
    exact k _ _ ⟨w.len, w.e, w.s.trans (same_new nL), l, h1, ls_same (same_new nL) h2⟩
/-- words = [..] -/
theorem sw_words {ws : List Str} (hN : X.N.Nodup) (ha : PA X es (tStrs ws)) (hj : X.N[j]? = some y) (hy : Loc X.env.scope y) (hlt : j < n) (h0 : 0 ≠ j) (hij : i ≠ j) (hl : ws.length ≤ 1000) (hs : swapsWith (.List es p2) (some (.Name y p1)) pos.line X.env = pure false := by rfl) (hf : X.fn y = true ∨ X.env.scope.names.lookup y = some .local := by first | exact .inl rfl | exact .inr rfl) :
    PS X (.Assign [.Name y p1] (.List es p2) pos) (fun D σ H => W1 X.K p.1 H0 n i fl σ H ∧ ∀ σ' H', (W1 X.K p.1 H0 n i fl σ' H' ∧ ∃ l, σ'[j]? = some (some (.ref l)) ∧ LsL X.K H' l (ws.map V.str)) → D.nx σ' H') :=
  PS_imp (ps_set (i := j) hN hj hy (pe_lst ha) hs hf) fun D σ H ⟨w, k⟩ => by
    obtain ⟨l, h1, h2⟩ := w.l
    exact ⟨Nat.le_of_lt (small1000 (by rw [List.length_map]; exact hl)), fun L nL => k _ _ ⟨⟨by rw [List.length_set]; exact w.len, by rw [List.getElem?_set_ne (Ne.symm h0)]; exact w.e, w.s.trans (same_new nL), l, by rw [List.getElem?_set_ne (Ne.symm hij)]; exact h1, ls_same (same_new nL) h2⟩, L, List.getElem?_set_self (by rw [w.len]; exact hlt), .of upd_same⟩⟩
/-- return words[flags.index(True)] -/
theorem sw_ret {ws : List Str} {wd : Str} {m j1 : Nat} {q1 q2 : Pos} (hi : X.N[i]? = some x) (hv : Vis X.env.scope x) (hj : X.N[j]? = some y) (hvj : Vis X.env.scope y) (hm : fl[m]? = some true) (hb : ∀ m', m' < m → fl[m']? = some false) (hw : ws[m]? = some wd)
    (hd : (x == ("__debug__" : Str)) = false := by decide) (hcd : (x == ("__classdict__" : Str)) = false := by decide) (hdj : (y == ("__debug__" : Str)) = false := by decide) (hcdj : (y == ("__classdict__" : Str)) = false := by decide)
    (hbase : attributeBase (.Name x p1) "index" X.env (eval (.Name x p1) X.env) = eval (.Name x p1) X.env := by rfl) (hline : (p2.endLine == p4.line) = true := by rfl)
    (hfew : ((backTo p4 (starEach [.Constant (.bool true) j1 p3] X.env)).all (fun x => !x.1) && (backToKw p4 (keywordEach [] X.env)).all (fun x => x.1.isSome)
      && decide (([.Constant (.bool true) j1 p3] : List Expr).length + ([] : List Keyword).length + (if ([] : List Keyword).isEmpty then 0 else 1) < 30)) = true := by rfl)
    (hst : starEach [.Constant (.bool true) j1 p3] X.env = (false, eval (.Constant (.bool true) j1 p3) X.env) :: starEach [] X.env := by rfl) :
    PS X (.Return (some (.Subscript (.Name y q1) (.Call (.Attribute (.Name x p1) "index" p2) [.Constant (.bool true) j1 p3] [] p4) q2)) pos)
      (fun D σ H => (W1 X.K p.1 H0 n i fl σ H ∧ ∃ l, σ[j]? = some (some (.ref l)) ∧ LsL X.K H l (ws.map V.str)) ∧ ∀ H', Same H0 H' → D.rt (.str wd) H') :=
  PS_imp (ps_ret (pe_ix ix_list (pe_var hj hvj hdj hcdj) (pe_bm PySem.F.plainAttrs_list PySem.F.slot_list_index PySem.F.type_list_index mt_index (pe_var hi hv hd hcd) (pa_cons pe_bl pa_nil hst) hbase hfew hline hst rfl) (fun _ _ => rfl))) fun D σ H ⟨⟨w, L, g1, g2⟩, k⟩ => by
    obtain ⟨l, h1, h2⟩ := w.l
    refine ⟨_, g1, _, h1, .inl ⟨rfl, _, h2.sq⟩, l, fl.map V.bl, .bl true, m, .bl true, rfl, rfl, h2.sq, rfl, ?_, by rw [List.getElem?_map, hm]; rfl, rfl, fun m' z' hlt hz => ?_, L, ws.map V.str, m, .str wd, rfl, rfl, g2.sq, atI_nat (by rw [List.getElem?_map, hw]; rfl), k _ w.s⟩
    · rw [List.all_eq_true]
      intro v hv
      obtain ⟨b, _, rfl⟩ := List.mem_map.mp hv
      rfl
    · rw [List.getElem?_map, hb m' hlt] at hz
      cases hz
      rfl
end
end PL
/-! PL, part z: the word of an exception, told by a def; try. -/
namespace PL
open PySem PySem.Spec PyProof.Rows L2 L2H

/-- a def of one parameter px that tells of the handled exception a word: by its class's number -/
structure FnW (P : Program) (w : World) (K : PySem.W.Frag) (mg : Str → Option Value) (base : Heap) (k : Nat) (f : Addr) (fd : FuncData) (px : Str) (ec : Nat → Addr) (wd : Nat → Option Str) : Prop where
  run : ∀ (A : Around) (outer : List Env) (s : Shared) (H : Hp) (args : Args) (Q : VK) (E : XK) (p : Addr × Obj) (c : Nat) (z : Str), RoomH k A → Hot1 A p → PinOk outer H s p → L2N.Zn (.ref (ec c)) none p.2 → Env0 P w K mg base A outer s H → BindsTo s fd args [(px, .ref p.1)] →
    wd c = some z → (∀ H', Same H H' → Q (.str z) H') → codeAny (model P w) A (.call (.ref f) args) (CR (L2N.CX P w) outer P w H s Q E) s
section
variable {P : Program} {w : World} {K : PySem.W.Frag} {mg : Str → Option Value} {base : Heap}
theorem fn_word {ec : Nat → Addr} {x qual px : Str} {st : Stmt} {f : Addr} {fd : FuncData} {N : List Str} {k : Nat} {wd : Nat → Option Str} (F : Fun K x qual st f fd) (S : FnScope N [px] (defScope st))
    (hbody : ∀ (cdv : Value) (A : Around) (outer : List Env) (s : Shared) (H : Hp) (E : XK) (p : Addr × Obj) (c : Nat) (z : Str), Hot1 A p → RoomH k (A.deeper (envOfC qual (defScope st) s.heap.objs.size f cdv)) → wd c = some z → Zc (.ref (ec c)) none p.2 → (∃ vs, p.2.data = .fields vs) →
      ∃ t, PSs (cxH (L2N.CX P w) P w K mg base N qual (defScope st) f cdv A outer s H E p) (defBody st) t ∧ ∀ D : Ends, (∀ H', Same H H' → D.rt (.str z) H') → t D (start N [.ref p.1]) H) :
    FnW P w K mg base (k + 1) f fd px ec wd := by
  obtain ⟨oc, od, kV, doc, pm, an, cdv, ct, osl, rfl, lk, hcd⟩ := F.ex
  refine ⟨fun A outer s H args Q E p c z hr hot hpin hz e0 hb hwd hq => ?_⟩
  have KX : K.In s.heap := e0.mod.kin.keeps fun b o e => (e0.bs b o e).1
  have lim : s.heap.NoLimit := e0.mod.nolimit.keeps fun b o e => (e0.bs b o e).1
  have hkind : ∀ y ∈ [px].zip [Value.ref p.1], (defScope st).names.lookup y.1 = some .local ∨ ((defScope st).names.lookup y.1 = some .cell ∧ ((cellsFrom (s.heap.objs.size + 1) (defScope st).names []).lookup y.1).isSome = true) := fun y hy =>
    (S.par y.1 (List.of_mem_zip hy).1).elim .inl fun q => .inr ⟨q, PySem.W.cellsFrom_some _ _ _ (.inl q)⟩
  refine codeAny_call_function hr.depth (KX _ _ lk) rfl S.co S.gen rfl (PySem.W.codeRec_of KX hcd) (hb _ _ _ _ ?_)
  refine wpAny_newFunctionEnv_cells S.kind hkind fun env he s1 x => ?_
  subst he
  refine ⟨lim.keeps x.toInCall.keep, codeAny_func ?_⟩
  obtain ⟨vs, hvs, _⟩ := hot.2
  obtain ⟨t, ht, hw⟩ := hbody cdv A outer s H E p c z hot (hr.deeper _) hwd hz.zc ⟨vs, hvs⟩
  have I := inv_startH (CX := L2N.CX P w) (E := E) (us := [.ref p.1]) (vs := [.ref p.1]) S hpin e0 rfl (.cons rfl .nil) x
  refine wpAny_mono (ht.run [] s1 _ H { nx := fun _ H' => Q .non H', rt := Q } I (hw _ hq)) (fun fl s' hs => ?_) fun e s' hs => hs
  cases fl with
  | ret u => obtain ⟨v, σ', H', J, rv, q⟩ := hs; exact ⟨v, H', J.os, J.bare, J.base, J.hok, rv, q⟩
  | next => obtain ⟨σ', H', J, q⟩ := hs; exact ⟨.non, H', J.os, J.bare, J.base, J.hok, rfl, q⟩
  | brk => obtain ⟨_, _, _, q⟩ := hs; exact q.elim
  | cont => obtain ⟨_, _, _, q⟩ := hs; exact q.elim
end
/-- the def by its name -/
structure CalW (P : Program) (w : World) (K : PySem.W.Frag) (mg : Str → Option Value) (base : Heap) (ec : Nat → Addr) (x : Str) (k : Nat) (wd : Nat → Option Str) : Prop where
  ex : ∃ (f : Addr) (fd : FuncData) (px : Str), FnW P w K mg base k f fd px ec wd ∧ mg x = some (.ref f) ∧ PySem.W.keepIn K (.ref f) = true ∧ Binds K fd [px] []
theorem FnW.mono {P : Program} {w : World} {K : PySem.W.Frag} {mg : Str → Option Value} {base : Heap} {j k : Nat} {f : Addr} {fd : FuncData} {px : Str} {ec : Nat → Addr} {wd : Nat → Option Str} (F : FnW P w K mg base j f fd px ec wd) (h : j ≤ k) : FnW P w K mg base k f fd px ec wd :=
  ⟨fun A outer s H args Q E p c z hr => F.run A outer s H args Q E p c z (hr.mono h)⟩
def tWd (i : Nat) (a : Addr) (z : Str) : TE := fun σ H Q => σ[i]? = some (some (.ref a)) ∧ ∀ H', Same H H' → Q (.str z) H'
section
variable {X : Cx} {ec : Nat → Addr} {wd : Nat → Option Str} {k c i : Nat} {z x : Str} {p : Addr × Obj} {e : Expr} {q pos : Pos}
theorem pe_callW (C : CalW X.prog X.w X.K X.mg X.base ec x k wd) (hr : RoomH k X.A) (hp : p ∈ X.pn) (hot : Hot1 X.A p) (hz : L2N.Zn (.ref (ec c)) none p.2) (hwd : wd c = some z) (hg : Gl X x) (he : PE X e (tVar i)) (hdb : (x == ("__debug__" : Str)) = false := by decide)
    (hst : starEach [e] X.env = (false, eval e X.env) :: starEach [] X.env := by rfl) : PE X (.Call (.Name x q) [e] [] pos) (tWd i p.1 z) := by
  obtain ⟨f, fd, px, F, hm, hk, hb⟩ := C.ex
  refine ⟨fun pins s σ H Q I ⟨h0, qq⟩ => ?_⟩
  refine wpAny_Call_Name_kw (ld_glob I hg hm ?_ hdb)
  refine PySem.W.callWith_K (h₀ := X.base) I.ok.mod.kin hk (thn ((pa_cons he pa_nil hst).run pos pins s σ H (fun vs H1 => vs = [V.ref p.1] ∧ H = H1) I ⟨_, h0, rfl, rfl⟩) fun us s1 ⟨vs, H1, I1, r, ev, eH⟩ => ⟨I1.kIn, ?_⟩) hst rfl
  subst ev
  rw [← eH] at I1
  rw [Vals.ref1 r]
  have P1 := I1.pin p (List.mem_append_left _ hp)
  have hpin : PinOk X.stack H s1 p := ⟨P1.1, P1.2.1, fun hm => (List.mem_cons.mp (I1.stkSub p.1 hm)).elim P1.2.2.1 P1.2.2.2.1, P1.2.2.2.2⟩
  have b := hb s1 [.ref p.1] I1.kIn rfl
  refine wpAny_call (codeAny_mono (F.run X.A X.stack s1 H ⟨[.ref p.1], []⟩ Q (fun _ _ _ => False) p c z hr hot hpin hz I1.env0 b hwd qq) fun r s' hq => ?_)
  cases r with
  | error e =>
    obtain ⟨_, _, _, _, _, _, _, _, _, _, _, _, zz⟩ := hq
    exact zz.elim
  | ok fl =>
    cases fl with
    | ret u => exact I1.after hq
    | next => exact hq.elim
    | brk => exact hq.elim
    | cont => exact hq.elim
end

/-! ### try: .. except X as e: return word(e) -/
def sTry (wd : Nat → Option Str) (fb : SF) (env : Ev) : Out := match fb env with
  | .ex c => match wd c with
    | some z => .rt (.str z)
    | none => .no
  | o => o
section
variable {X : Cx} {ec : Nat → Addr} {W : WX} {G0 H0 : Hp} {wd : Nat → Option Str} {k i : Nat} {x xe n : Str} {cT : Addr} {body : List Stmt} {fb : SF} {np q1 q2 q3 q4 pos pos' : Pos}
theorem ss_try (i0 : Same G0 H0) (C : CalW X.prog X.w X.K X.mg X.base ec x k wd) (hr : Room k X.A) (tk : L2N.Takes X W) (hs : X.stack = X.env :: X.outer) (hf : X.env.frame = some X.env.locals) (hN : X.N.Nodup) (hi : X.N[i]? = some n) (hln : X.env.kindOf n = some .local) (hgx : Gl X x) (hge : Gl X xe) (hme : X.mg xe = some (.ref cT))
    (hex : ∀ c z, wd c = some z → PySem.W.exmOne X.K (.ref (ec c)) (.ref cT) = some true)
    (hb : ∀ (W' : WX) (pn : List (Addr × Obj)) (xx : Value → Shared → Prop), L2N.Takes (X.tr pn xx) W' → PassesOwn (model X.prog X.w) X.A X.env xx → PSs (X.tr pn xx) body (tDS X.K ec W' G0 H0 fb))
    (hv : Vis X.env.scope n) (hd : (n == ("__debug__" : Str)) = false := by decide) (hcd : (n == ("__classdict__" : Str)) = false := by decide) (hdx : (x == ("__debug__" : Str)) = false := by decide) (hde : (xe == ("__debug__" : Str)) = false := by decide)
    (hst : starEach [.Name n q2] X.env = (false, eval (.Name n q2) X.env) :: starEach [] X.env := by rfl) :
    PS X (.Try body [.ExceptHandler (some (.Name xe np)) (some n) [.Return (some (.Call (.Name x q1) [.Name n q2] [] q3)) q4] pos'] [] [] pos) (tDS X.K ec W G0 H0 (sTry wd fb)) := by
  have hsu : ∀ (a : Addr) (oe : Obj) (cls : Value) (d : Option Addr) (pn : List (Addr × Obj)), L2N.Zn cls d oe → (∃ vs, oe.data = .fields vs) → PSs (X.suite a ((a, oe) :: pn)) [.Return (some (.Call (.Name x q1) [.Name n q2] [] q3)) q4]
      (fun D σ H => (∃ σ0 : L2.St, σ = σ0.set i (some (.ref a))) ∧ ∃ c z, cls = .ref (ec c) ∧ d = none ∧ wd c = some z ∧ ∀ H', Same H H' → D.rt (.str z) H') := by
    intro a oe cls d pn hz hff
    refine ⟨fun pins s σ H D I h => ?_⟩
    obtain ⟨⟨σ0, e0⟩, c, z, rfl, rfl, hwd, q⟩ := h
    obtain ⟨vs, hvs⟩ := hff
    have hot : Hot1 (X.suite a ((a, oe) :: pn)).A (a, oe) := ⟨rfl, vs, hvs, hz.2.2 vs hvs⟩
    have rh : RoomH k (X.suite a ((a, oe) :: pn)).A := ⟨hr.dp, hr.un⟩
    refine (pss_one (ps_ret (pe_callW (X := X.suite a ((a, oe) :: pn)) (p := (a, oe)) C rh List.mem_cons_self hot hz hwd hgx (pe_var (X := X.suite a ((a, oe) :: pn)) hi hv hd hcd) hdx hst))).run pins s σ H D I ⟨?_, q⟩
    subst e0
    refine List.getElem?_set_self ?_
    have := I.len
    rw [List.length_set] at this
    rw [this]
    exact (List.getElem?_eq_some_iff.mp hi).1
  refine PS_imp (L2N.ps_try_as (np := np) (pos := pos) (pos' := pos') hs hf hN hi hln ⟨hge, hde, .inl hme⟩ tk (tb := fun W' => tDS X.K ec W' G0 H0 fb) hb hsu) fun D σ H ⟨G, env, S, p⟩ => ⟨G, env, S, ?_⟩
  unfold sTry at p
  cases q : fb env with
  | nx e => rw [q] at p; exact p
  | rt d => rw [q] at p; exact p
  | bk e => rw [q] at p; exact p
  | ct e => rw [q] at p; exact p
  | no => rw [q] at p; exact p
  | ex c =>
    rw [q] at p
    dsimp only at p
    cases qw : wd c with
    | none => rw [qw] at p; exact p.elim
    | some z =>
      rw [qw] at p
      intro σ' H' hH
      refine ⟨true, hex c z qw, fun _ a na => ⟨⟨σ', rfl⟩, c, z, rfl, rfl, qw, fun H2 s2 => ?_⟩, fun z => nomatch z⟩
      exact p _ G0 H2 (Ext.heap i0 (hH.trans s2)) (.str z)
end
end PL
/-! PL, part l: in, not in, index, pop, sums of lists that are owned. -/
namespace PL
open PySem PySem.Spec PyProof.Rows L2

/-! ### isinstance of exceptions -/
theorem kit_self {K : PySem.W.Frag} {D : Addr} : PySem.W.kitOne K (.ref D) (.ref D) = some true := by
  unfold PySem.W.kitOne
  rw [if_pos (beq_self_eq_true _)]
theorem kit_other {K : PySem.W.Frag} {C D : Addr} (n : (D == C) = false) (h : PySem.W.hasDictIn K C = true) (t : PySem.W.typeIn K (.ref C) = some (.type "type")) (s : PySem.W.subIn K (.ref D) (.ref C) = some false) : PySem.W.kitOne K (.ref D) (.ref C) = some false := by
  obtain ⟨cd, hc, _⟩ := PySem.W.any_some h
  have e1 : ((PySem.W.clsIn K C).isSome && PySem.W.typeIn K (.ref C) == some (.type "type")) = true := by rw [hc, t] <;> rfl
  have e2 : ¬ ((Value.ref D == Value.ref C) = true) := fun z => by
    have e := Value.ref.inj (beq_iff_eq.mp z)
    rw [e] at n
    simp at n
  unfold PySem.W.kitOne PySem.W.kitCls
  rw [if_neg e2]
  dsimp only
  rw [if_pos e1]
  exact s
theorem kit_ve {K : PySem.W.Frag} {D : Addr} (s : PySem.W.subIn K (.ref D) (.type "ValueError") = some true) : PySem.W.kitOne K (.ref D) (.type "ValueError") = some true := by
  have e2 : ¬ ((Value.ref D == Value.type "ValueError") = true) := fun z => by
    have e := beq_iff_eq.mp z
    cases e
  have e1 : PySem.W.kitMeta "ValueError" = true := by decide +kernel
  unfold PySem.W.kitOne PySem.W.kitCls
  rw [if_neg e2]
  dsimp only
  rw [if_pos e1]
  exact s

/-! ### a datum is like itself -/
mutual
theorem eqv_refl : ∀ d : PyData, d.canLay0 = true → PyData.eqv d d = true
  | .none, _ => by simp [PyData.eqv]
  | .bool b, _ => by simp [PyData.eqv]
  | .int i, _ => by simp [PyData.eqv]
  | .str x, _ => by simp [PyData.eqv]
  | .list xs, h => by
    simp only [PyData.eqv]
    exact eqvAll_refl xs (by simpa [PyData.canLay0] using h)
  | .tuple xs, h => by
    simp only [PyData.eqv]
    exact eqvAll_refl xs (by simpa [PyData.canLay0] using h)
  | .dict _, h => by simp [PyData.canLay0] at h
theorem eqvAll_refl : ∀ ds : List PyData, PyData.canLayAll0 ds = true → PyData.eqvAll ds ds = true
  | [], _ => by simp [PyData.eqvAll]
  | d :: ds, h => by
    simp only [PyData.canLayAll0, Bool.and_eq_true] at h
    simp only [PyData.eqvAll, Bool.and_eq_true]
    exact ⟨eqv_refl d h.1, eqvAll_refl ds h.2⟩
end
theorem canLay_sh {d : PyData} (h : SeqAt.shaped d = true) : d.canLay0 = true := SeqAt.canLay_of_shaped h
theorem dEq_self {d : PyData} (h : SeqAt.shaped d = true) : dEq d d = .ok (.bool true) := by rw [dEq_shp h h, eqv_refl d (canLay_sh h)]
theorem dNe_self {d : PyData} (h : SeqAt.shaped d = true) : dNe d d = .ok (.bool false) := by rw [dNe_shp h h, eqv_refl d (canLay_sh h)]; rfl

theorem szl_big {n : Nat} (h : n ≤ 900000) : n < szl := Nat.lt_of_le_of_lt h (by rw [szl_eq]; decide)
theorem dAdd_list {a b : List PyData} (h : a.length + b.length ≤ 900000) : dAdd (.list a) (.list b) = .ok (.list (a ++ b)) := if_pos (Nat.le_of_lt (szl_big h))
theorem dAdd_tuple {a b : List PyData} (h : a.length + b.length ≤ 900000) : dAdd (.tuple a) (.tuple b) = .ok (.tuple (a ++ b)) := if_pos (Nat.le_of_lt (szl_big h))

/-! ### in -/
def anyEq (x : PyData) (ds : List PyData) : Bool := ds.any fun z => PyData.eqv z x
def dIn (x y : PyData) : R PyData := match y with
  | .list ds => if SeqAt.shaped x = true ∧ SeqAt.shaped (.list ds) = true then .ok (.bool (anyEq x ds)) else .no
  | .tuple ds => if atomic x = true ∧ ds.all atomic = true then .ok (.bool (anyEq x ds)) else .no
  | _ => .no
def dNotIn (x y : PyData) : R PyData := match y with
  | .list ds => if SeqAt.shaped x = true ∧ SeqAt.shaped (.list ds) = true then .ok (.bool (!anyEq x ds)) else .no
  | _ => .no
theorem atomic_flat {K : PySem.W.Frag} {G : Hp} {v : V} {d : PyData} (r : Rep K G v d) (a : atomic d = true) : flatV v = true := by
  cases r with
  | non => rfl
  | bl b => rfl
  | int i => rfl
  | str x => rfl
  | _ => cases a
theorem atomic_eq {K : PySem.W.Frag} {G : Hp} {v w : V} {d e : PyData} (r : Rep K G v d) (s : Rep K G w e) (a : atomic d = true) (b : atomic e = true) : eqV v w = PyData.eqv d e := by
  cases r <;> first | (cases a; done) | skip
  all_goals (cases s <;> first | (cases b; done) | skip)
  all_goals simp [eqV, PyData.eqv]
theorem atomic_all {K : PySem.W.Frag} {G : Hp} : ∀ {vs : List V} {ds : List PyData}, RepA K G vs ds → ds.all atomic = true → vs.all flatV = true
  | _, _, .nil, _ => rfl
  | _, _, .cons h r, a => by
    rw [List.all_cons, Bool.and_eq_true] at a
    rw [List.all_cons, atomic_flat h a.1, atomic_all r a.2]
    rfl
theorem inV_eq {K : PySem.W.Frag} {G : Hp} {x : V} {dx : PyData} (r : Rep K G x dx) (ha : atomic dx = true) : ∀ {vs : List V} {ds : List PyData}, RepA K G vs ds → ds.all atomic = true → inV x vs = anyEq dx ds
  | _, _, .nil, _ => rfl
  | _, _, .cons h t, a => by
    rw [List.all_cons, Bool.and_eq_true] at a
    have ih := inV_eq r ha t a.2
    unfold inV anyEq at ih ⊢
    rw [List.any_cons, List.any_cons, ih, atomic_eq h r a.1 ha]
section
variable {X : Cx} {K : PySem.W.Frag} {ec : Nat → Addr} {W : WX} {a b : Expr} {fa fb : EF} {pos : Pos}
theorem op_inP (hu : X.A.units + 65 < cLine) : OpR X (compareOp .In) (fun x y H Q => rInD X.K x y H Q ∨ rIn X.K false x y H Q) := (op_inD hu).or op_in_seq
theorem od_in : OpD K (fun x y H Q => rInD K x y H Q ∨ rIn K false x y H Q) dIn := by
  intro x y dx dy d G H Q i rx ry h q
  cases ry with
  | @lst l ys es hl r =>
    unfold dIn at h
    dsimp only at h
    split at h
    · rename_i hs
      cases h
      exact .inl ⟨dx, es, (rx.mono i).dp (SeqAt.canLay_of_shaped hs.1), (Rep.mono i (.lst hl r)).dp (SeqAt.canLay_of_shaped hs.2), hs.1, hs.2, q _ G H (Ext.refl i) (.bl _)⟩
    · cases h
  | @tup l ys es hl r =>
    unfold dIn at h
    dsimp only at h
    split at h
    · rename_i hs
      cases h
      refine .inr ⟨l, ys, rfl, .inr (sqT_same i hl), atomic_flat rx hs.1, atomic_all r hs.2, ?_⟩
      rw [if_neg Bool.false_ne_true, inV_eq rx hs.1 r hs.2]
      exact q _ G H (Ext.refl i) (.bl _)
    · cases h
  | _ => cases h
theorem nx_in : NoEx dIn := by
  intro x y c h
  unfold dIn at h
  split at h
  · split at h <;> cases h
  · split at h <;> cases h
  · cases h
theorem od_notIn : OpD K (rNotInD K) dNotIn := by
  intro x y dx dy d G H Q i rx ry h q
  cases ry with
  | @lst l ys es hl r =>
    unfold dNotIn at h
    dsimp only at h
    split at h
    · rename_i hs
      cases h
      exact ⟨dx, es, (rx.mono i).dp (SeqAt.canLay_of_shaped hs.1), (Rep.mono i (.lst hl r)).dp (SeqAt.canLay_of_shaped hs.2), hs.1, hs.2, q _ G H (Ext.refl i) (.bl _)⟩
    · cases h
  | _ => cases h
theorem nx_notIn : NoEx dNotIn := by
  intro x y c h
  unfold dNotIn at h
  split at h
  · split at h <;> cases h
  · cases h
theorem se_in (hu : X.A.units + 65 < cLine) (ha : PE X a (tD X.K ec W fa)) (hb : PE X b (tD X.K ec W fb)) (hm : behindInMarks .In b = false := by rfl) : PE X (.Compare a [.In] [b] pos) (tD X.K ec W (eBin dIn fa fb)) := se_cmp (op_inP hu) od_in nx_in ha hb hm
theorem st_in (hu : X.A.units + 65 < cLine) (ha : PE X a (tD X.K ec W fa)) (hb : PE X b (tD X.K ec W fb)) (hm : behindInMarks .In b = false := by rfl) : PT X (.Compare a [.In] [b] pos) (tDT X.K ec W (bVal (eBin dIn fa fb))) := st_cmp (op_inP hu) od_in nx_in ha hb hm
theorem se_notIn (hu : X.A.units + 65 < cLine) (ha : PE X a (tD X.K ec W fa)) (hb : PE X b (tD X.K ec W fb)) (hm : behindInMarks .NotIn b = false := by rfl) : PE X (.Compare a [.NotIn] [b] pos) (tD X.K ec W (eBin dNotIn fa fb)) := se_cmp (op_notInD hu) od_notIn nx_notIn ha hb hm
theorem st_notIn (hu : X.A.units + 65 < cLine) (ha : PE X a (tD X.K ec W fa)) (hb : PE X b (tD X.K ec W fb)) (hm : behindInMarks .NotIn b = false := by rfl) : PT X (.Compare a [.NotIn] [b] pos) (tDT X.K ec W (bVal (eBin dNotIn fa fb))) := st_cmp (op_notInD hu) od_notIn nx_notIn ha hb hm
end

/-! ### a sum of two lists, new -/
theorem PostN.bind {K : PySem.W.Frag} {ec : Nat → Addr} {W : WX} {σ : L2.St} {G H : Hp} {Q Q' : VK} {r : R PyData} {k : PyData → R PyData} (h : PostN K ec W σ G H Q (r.bind k)) (hk : ∀ v d G' H', r = .ok d → Ext G H G' H' → Rep K G' v d → PostN K ec W σ G' H' Q (k d) → Q' v H') : Post K ec W σ G H Q' r := by
  cases r with
  | ok d => exact fun v G' H' e p => hk v d G' H' rfl e p (PostN.mono e h)
  | ex c => exact h
  | no => exact h
noncomputable def dAddL (x y : PyData) : R PyData := match x, y with
  | .list a, .list b => if a.length + b.length < szl then .ok (.list (a ++ b)) else .no
  | _, _ => .no
section
variable {X : Cx} {ec : Nat → Addr} {W : WX} {G0 H0 : Hp} {a b tg : Expr} {fa fb : EF} {pos p apos cpos : Pos} {i : Nat} {x : Str} {g : GF}
theorem sn_add (ha : PE X a (tD X.K ec W fa)) (hb : PE X b (tD X.K ec W fb)) : PE X (.BinOp a .Add b pos) (tDN X.K ec W (eBin dAddL fa fb)) :=
  PE_imp (pe_op op_catR ha hb) fun σ H Q ⟨G, env, s, E, p⟩ => ⟨G, env, s, E, PostN.bind p fun v d G1 H1 _ e1 r1 p1 => ⟨G1, env, e1.i, E.mono e1.g, PostN.bind p1 fun w d2 G2 H2 _ e2 r2 p2 => by
    cases r1 with
    | @lst l xs ds hl r =>
      cases r2 with
      | @lst m zs es hm r' =>
        unfold dAddL at p2
        dsimp only at p2
        split at p2
        · rename_i hz
          have rr := r.mono e2.g
          exact ⟨l, m, xs, zs, rfl, rfl, ls_same (e2.g.trans e2.i) hl, ls_same e2.i hm, szl_line (by rw [rr.length, r'.length]; exact Nat.le_of_lt hz), fun q nq => p2 q G2 _ (Ext.heap e2.i (same_new nq)) nq (e2.i.free nq) (own_new (rr.append r'))⟩
        · exact p2.elim
      | _ => exact p2.elim
    | _ => exact p2.elim⟩⟩

/-! ### target = xs.pop(), xs owned -/
def sPopT (i : Nat) (tg : GF) (env : Ev) : Out := match env[i]? with
  | some (.ow (.list ds)) => match ds.getLast? with
    | some d => match tg d (env.set i (.ow (.list ds.dropLast))) with
      | some e => .nx e
      | none => .no
    | none => .no
  | _ => .no
theorem RepA.dropLast {K : PySem.W.Frag} {G : Hp} {vs : List V} {ds : List PyData} (r : RepA K G vs ds) : RepA K G vs.dropLast ds.dropLast := by
  induction r using RepA.rec (motive_1 := fun _ _ _ => True) (motive_3 := fun _ _ _ => True) with
  | nil => exact .nil
  | @cons v d vs ds h r _ ih =>
    cases r with
    | nil => exact .nil
    | cons h2 r2 => exact .cons h ih
  | _ => trivial
theorem ss_popT (hg : PG X tg (tDG X.K G0 H0 g)) (hi : X.N[i]? = some x := by rfl) (hv : Vis X.env.scope x := by first | exact Or.inl rfl | exact Or.inr (Or.inl rfl) | exact Or.inr (Or.inr rfl)) (hd : (x == ("__debug__" : Str)) = false := by decide) (hcd : (x == ("__classdict__" : Str)) = false := by decide)
    (hline : (apos.endLine == cpos.line) = true := by rfl) (hs : swapsWithSole [tg] (.Call (.Attribute (.Name x p) "pop" apos) [] [] cpos) pos.line X.env = pure false := by rfl) (hw : swappedStores [tg] (.Call (.Attribute (.Name x p) "pop" apos) [] [] cpos) X.env = pure none := by rfl)
    (h1 : (assignEach [tg] X.env).map (·.2) = [assign tg X.env] := by rfl) :
    PS X (.Assign [tg] (.Call (.Attribute (.Name x p) "pop" apos) [] [] cpos) pos) (tDS X.K ec W G0 H0 (sPopT i g)) := by
  refine PS_imp (ps_asg (pe_bm0 PySem.F.plainAttrs_list PySem.F.slot_list_pop PySem.F.type_list_pop mt_pop (pe_var hi hv hd hcd) rfl hline) hg hs hw h1) fun D σ H ⟨G, env, S, pp⟩ => ?_
  unfold sPopT at pp
  split at pp
  · rename_i ds q
    split at pp
    · rename_i d hl
      split at pp
      · rename_i e hg'
        obtain ⟨l, e1, e2, e3, vs, e4, e5⟩ := S.ow i _ q
        have hlen := e5.length
        rw [List.getLast?_eq_getElem?] at hl
        obtain ⟨v, hv1, hv2⟩ := e5.get hl
        refine ⟨_, e1, .inl ⟨rfl, vs, SqL.of e4⟩, l, vs, v, rfl, rfl, e4, by rw [hlen]; exact hv1, ?_⟩
        have S' := S.mut (o := .lst vs.dropLast) (d' := .list ds.dropLast) q e1 ⟨_, upd_same, e5.dropLast⟩
        exact ⟨G, _, d, e, S', hv2, hg', fun σ' S2 => pp σ' G _ (Same.refl _) S2⟩
      · exact pp.elim
    · exact pp.elim
  · exact pp.elim
end
theorem dAddL_list {a b : List PyData} (h : a.length + b.length ≤ 900000) : dAddL (.list a) (.list b) = .ok (.list (a ++ b)) := if_pos (szl_big h)

/-! ### statement by statement -/
@[simp] theorem pur_pu {d : PyData} : (Sl.pu d).pur = some d := rfl
@[simp] theorem pur_ow {d : PyData} : (Sl.ow d).pur = none := rfl
@[simp] theorem pur_no : Sl.no.pur = none := rfl
@[simp] theorem full_pu {d : PyData} : (Sl.pu d).full = some d := rfl
@[simp] theorem full_ow {d : PyData} : (Sl.ow d).full = some d := rfl
@[simp] theorem full_no : Sl.no.full = none := rfl
theorem seq_nx {a b : SF} {env e : Ev} {r : Out} (h : a env = .nx e) (h2 : b e = r) : sSeq a b env = r := by
  unfold sSeq
  rw [h]
  exact h2
theorem seq_rt {a b : SF} {env : Ev} {d : PyData} (h : a env = .rt d) : sSeq a b env = .rt d := by
  unfold sSeq
  rw [h]
  rfl
end PL
/-! PL, part m: < of tuples within one another. -/
namespace PL
open PySem PySem.Spec PyProof.Rows L2

mutual
def ltD : PyData → PyData → Option Bool
  | .int a, .int b => some (decide (a < b))
  | .tuple xs, .tuple ys => ltL xs ys
  | _, _ => none
def ltL : List PyData → List PyData → Option Bool
  | [], [] => some false
  | [], _ :: _ => some true
  | _ :: _, [] => some false
  | x :: xs, y :: ys => match ltL xs ys with
    | none => none
    | some c => if PyData.eqv x y = true then some c else ltD x y
end
def pairLt (xs ys : List PyData) (j : Nat) : Bool := match xs[j]?, ys[j]? with
  | some x, some y => (ltD x y).getD false
  | _, _ => false
theorem lexAt_shift (e r : Nat → Bool) (z : Bool) : ∀ (k i : Nat), Ob.lexAt (fun j => e (j + 1)) (fun j => r (j + 1)) z i k = Ob.lexAt e r z (i + 1) k
  | 0, i => rfl
  | k + 1, i => by rw [Ob.lexAt_succ, Ob.lexAt_succ, lexAt_shift e r z k (i + 1)]
theorem ltL_lex : ∀ (xs ys : List PyData) (b : Bool), ltL xs ys = some b → Ob.lexAt (SeqAt.pairEq xs ys) (pairLt xs ys) (decide (xs.length < ys.length)) 0 (min xs.length ys.length) = b
  | [], [], b, h => by simp only [ltL] at h; cases h; rfl
  | [], _ :: _, b, h => by simp only [ltL] at h; cases h; simp [Ob.lexAt]
  | _ :: _, [], b, h => by simp only [ltL] at h; cases h; simp [Ob.lexAt]
  | x :: xs, y :: ys, b, h => by
    unfold ltL at h
    cases q : ltL xs ys with
    | none => rw [q] at h; cases h
    | some c =>
      rw [q] at h
      dsimp only at h
      have ih := ltL_lex xs ys c q
      have hm : min (x :: xs).length (y :: ys).length = min xs.length ys.length + 1 := by simp only [List.length_cons]; omega
      have hz : decide ((x :: xs).length < (y :: ys).length) = decide (xs.length < ys.length) := by simp
      rw [hm, Ob.lexAt_succ, hz]
      have e0 : SeqAt.pairEq (x :: xs) (y :: ys) 0 = PyData.eqv x y := rfl
      rw [e0]
      by_cases he : PyData.eqv x y = true
      · rw [if_pos he] at h
        cases h
        rw [if_pos he, ← lexAt_shift]
        exact ih
      · rw [if_neg he] at h
        rw [if_neg he]
        simp [pairLt, h]
theorem rcOp_ltD : (∀ (n : Nat) (dx dy : PyData), sizeOf dx ≤ n → ∀ (b : Bool) (A : Around) (s : Shared) (u v : Value) (as bs : List Addr), Reads s.heap u dx as → Reads s.heap v dy bs → dx.canLay0 = true → dy.canLay0 = true → A.units + min dx.depth dy.depth < cLine → ltD dx dy = some b → Ob.RcOp .Lt A s u v b) := by
  intro n
  induction n with
  | zero =>
    intro dx dy hn
    cases dx <;> simp at hn
  | succ n ih =>
    intro dx dy hn b A s u v as bs ru rv cx cy hu h
    cases dx with
    | int a =>
      cases dy with
      | int c =>
        simp only [ltD] at h
        cases h
        cases ru
        cases rv
        exact Ob.RcOp.lt_int _ _ _ _
      | _ => simp [ltD] at h
    | tuple xs =>
      cases dy with
      | tuple ys =>
        simp only [ltD] at h
        cases ru with
        | @tuple a o vs k _ as' ha hc hd rs =>
          cases rv with
          | @tuple a2 o2 vs2 k2 _ as2 ha2 hc2 hd2 rs2 =>
            have cxs : PyData.canLayAll0 xs = true := by simpa [PyData.canLay0] using cx
            have cys : PyData.canLayAll0 ys = true := by simpa [PyData.canLay0] using cy
            simp only [PyData.depth] at hu
            have h1 : s.heap.IsTuple a vs := ⟨o, ha, hc, k, hd⟩
            have h2 : s.heap.IsTuple a2 vs2 := ⟨o2, ha2, hc2, k2, hd2⟩
            have l1 : vs.size = xs.length := by have := SeqAt.ReadsAll.length xs _ _ rs; simpa using this
            have l2 : vs2.size = ys.length := by have := SeqAt.ReadsAll.length ys _ _ rs2; simpa using this
            have hu1 : A.in1.units + min (PyData.depthAll xs) (PyData.depthAll ys) < cLine := by
              show A.units + 1 + min (PyData.depthAll xs) (PyData.depthAll ys) < cLine
              omega
            have key : ∀ (xs ys : List PyData) (vs ws : List Value) (as bs : List Addr) (b : Bool), ReadsAll s.heap vs xs as → ReadsAll s.heap ws ys bs → PyData.canLayAll0 xs = true → PyData.canLayAll0 ys = true → A.in1.units + min (PyData.depthAll xs) (PyData.depthAll ys) < cLine → sizeOf xs ≤ n → ltL xs ys = some b →
                ∀ j (h1 : j < vs.length) (h2 : j < ws.length), SeqAt.pairEq xs ys j = false → Ob.RcOp .Lt A.in1 s vs[j] ws[j] (pairLt xs ys j) := by
              intro xs
              induction xs with
              | nil => intro ys vs ws as bs b r1 r2 _ _ _ _ _ j h1; cases r1; exact absurd h1 (by simp)
              | cons x xs ihx =>
                intro ys vs ws as bs b r1 r2 c1 c2 hu hs hl j h1 h2 hj
                cases ys with
                | nil => cases r2; exact absurd h2 (by simp)
                | cons y ys =>
                  cases r1 with
                  | @cons v1 vs1 _ _ a1 b1 q1 p1 =>
                    cases r2 with
                    | @cons v2 vs2 _ _ a2 b2 q2 p2 =>
                      simp only [PyData.canLayAll0, Bool.and_eq_true] at c1 c2
                      simp only [PyData.depthAll] at hu
                      have hin : A.in1.units = A.units + 1 := rfl
                      simp only [List.cons.sizeOf_spec] at hs
                      unfold ltL at hl
                      cases q : ltL xs ys with
                      | none => rw [q] at hl; cases hl
                      | some c =>
                        rw [q] at hl
                        dsimp only at hl
                        cases j with
                        | zero =>
                          have he : ¬ PyData.eqv x y = true := by
                            have hj : PyData.eqv x y = false := hj
                            rw [hj]; simp
                          rw [if_neg he] at hl
                          have e : pairLt (x :: xs) (y :: ys) 0 = b := by simp [pairLt, hl]
                          rw [e]
                          exact ih x y (by omega) b A.in1 s v1 v2 _ _ q1 q2 c1.1 c2.1 (by omega) hl
                        | succ j =>
                          exact ihx ys vs1 vs2 b1 b2 c p1 p2 c1.2 c2.2 (by omega) (by omega) q j (by simpa using h1) (by simpa using h2) hj
            have hsz : sizeOf xs ≤ n := by simp only [PyData.tuple.sizeOf_spec] at hn; omega
            have R := Ob.RcOp.tuples_lt (A := A) (s := s) (e := SeqAt.pairEq xs ys) (r := pairLt xs ys) h1 h2 (by omega)
              (fun j g1 g2 => by
                have := SeqAt.eqAt_readsAll xs ys A.in1 s vs.toList vs2.toList _ _ rs rs2 cxs cys hu1 j (by simpa using g1) (by simpa using g2)
                simpa using this)
              (fun j g1 g2 hj => by
                have := key xs ys vs.toList vs2.toList _ _ b rs rs2 cxs cys hu1 hsz h j (by simpa using g1) (by simpa using g2) hj
                simpa using this)
            rw [l1, l2, ltL_lex xs ys b h] at R
            exact R
      | _ => simp [ltD] at h
    | _ => simp [ltD] at h
def dLtN (x y : PyData) : R PyData := if SeqAt.shaped x = true ∧ SeqAt.shaped y = true then match ltD x y with
  | some b => .ok (.bool b)
  | none => .no else .no
def rLtN (K : PySem.W.Frag) : R2 := fun x y H Q => ∃ dx dy b, Dp K H x dx ∧ Dp K H y dy ∧ SeqAt.shaped dx = true ∧ SeqAt.shaped dy = true ∧ ltD dx dy = some b ∧ Q (.bl b) H
section
variable {X : Cx} {K : PySem.W.Frag} {ec : Nat → Addr} {W : WX} {a b : Expr} {fa fb : EF} {pos : Pos}
theorem op_ltN (hu : X.A.units + 65 < cLine) : OpR X (compareOp .Lt) (rLtN X.K) := by
  intro pins s σ H x y v u Q I rx ry h
  obtain ⟨dx, dy, b, h1, h2, s1, s2, hl, q⟩ := h
  obtain ⟨as, r1⟩ := Dp.reads I dx x v h1 rx
  obtain ⟨bs, r2⟩ := Dp.reads I dy y u h2 ry
  have hd : dx.depth ≤ 64 := by
    unfold SeqAt.shaped at s1
    rw [Bool.and_eq_true, decide_eq_true_eq] at s1
    exact s1.2
  exact rcOp_ltD _ dx dy (Nat.le_refl _) b X.A s v u as bs r1 r2 (canLay_sh s1) (canLay_sh s2) (by omega) hl X.prog X.w X.xe _ ⟨.bl b, H, I, rfl, q⟩
theorem od_ltN : OpD K (rLtN K) dLtN := by
  intro x y dx dy d G H Q i rx ry h q
  unfold dLtN at h
  split at h
  · rename_i hs
    split at h
    · rename_i b hb
      cases h
      exact ⟨dx, dy, b, (rx.mono i).dp (canLay_sh hs.1), (ry.mono i).dp (canLay_sh hs.2), hs.1, hs.2, hb, q _ G H (Ext.refl i) (.bl _)⟩
    · cases h
  · cases h
theorem nx_ltN : NoEx dLtN := by
  intro x y c h
  unfold dLtN at h
  split at h
  · split at h <;> cases h
  · cases h
theorem se_ltN (hu : X.A.units + 65 < cLine) (ha : PE X a (tD X.K ec W fa)) (hb : PE X b (tD X.K ec W fb)) : PE X (.Compare a [.Lt] [b] pos) (tD X.K ec W (eBin dLtN fa fb)) := se_cmp (op_ltN hu) od_ltN nx_ltN ha hb (nomark _)
theorem st_ltN (hu : X.A.units + 65 < cLine) (ha : PE X a (tD X.K ec W fa)) (hb : PE X b (tD X.K ec W fb)) : PT X (.Compare a [.Lt] [b] pos) (tDT X.K ec W (bVal (eBin dLtN fa fb))) := st_cmp (op_ltN hu) od_ltN nx_ltN ha hb (nomark _)
end

/-! ### xs.index(x) -/
def idxOf (x : PyData) : List PyData → Option Nat
  | [] => none
  | z :: zs => if PyData.eqv z x = true then some 0 else (idxOf x zs).map (· + 1)
def dIndex (l x : PyData) : R PyData := match l with
  | .list ds => if SeqAt.shaped x = true ∧ SeqAt.shaped (.list ds) = true then match idxOf x ds with
    | some j => .ok (.int (j : Nat))
    | none => .no else .no
  | _ => .no
def eIndex (fo fa : EF) (env : List (Option PyData)) : R PyData := (fo env).bind fun l => match l with
  | .list ds => (fa env).bind (dIndex (.list ds))
  | _ => .no
theorem idxOf_ok {x : PyData} : ∀ {ds : List PyData} {j : Nat}, idxOf x ds = some j → ∃ z, ds[j]? = some z ∧ PyData.eqv z x = true ∧ ∀ (m : Nat) (z' : PyData), m < j → ds[m]? = some z' → PyData.eqv z' x = false
  | [], j, h => by cases h
  | z :: zs, j, h => by
    unfold idxOf at h
    split at h
    · rename_i hz
      cases h
      exact ⟨z, rfl, hz, fun m _ hm => absurd hm (by omega)⟩
    · rename_i hz
      cases q : idxOf x zs with
      | none => rw [q] at h; cases h
      | some i =>
        rw [q] at h
        cases h
        obtain ⟨y, h1, h2, h3⟩ := idxOf_ok q
        refine ⟨y, by simpa using h1, h2, fun m z' hm hz' => ?_⟩
        cases m with
        | zero =>
          rw [List.getElem?_cons_zero] at hz'
          cases hz'
          simpa using hz
        | succ m => exact h3 m z' (Nat.lt_of_succ_lt_succ hm) (by simpa using hz')
section
variable {X : Cx} {ec : Nat → Addr} {W : WX} {a o : Expr} {fa fo : EF} {apos cpos : Pos}
theorem se_index (hu : X.A.units + 65 < cLine) (ho : PE X o (tD X.K ec W fo)) (ha : PE X a (tD X.K ec W fa)) (hbase : attributeBase o "index" X.env (eval o X.env) = eval o X.env := by rfl)
    (hfew : ((backTo cpos (starEach [a] X.env)).all (fun x => !x.1) && (backToKw cpos (keywordEach [] X.env)).all (fun x => x.1.isSome)
      && decide (([a] : List Expr).length + ([] : List Keyword).length + (if ([] : List Keyword).isEmpty then 0 else 1) < 30)) = true := by rfl)
    (hline : (apos.endLine == cpos.line) = true := by rfl) (hs : starEach [a] X.env = (false, eval a X.env) :: starEach [] X.env := by rfl) :
    PE X (.Call (.Attribute o "index" apos) [a] [] cpos) (tD X.K ec W (eIndex fo fa)) :=
  PE_imp (pe_bm PySem.F.plainAttrs_list PySem.F.slot_list_index PySem.F.type_list_index (mt_indexD hu) ho (pa_cons ha pa_nil hs) hbase hfew hline hs rfl) fun σ H Q ⟨G, env, s, E, p⟩ => ⟨G, env, s, E, Post.bind p fun v d G1 H1 _ e1 r1 p1 => by
    cases r1 with
    | @lst l xs ds hl r =>
      refine ⟨.inl ⟨rfl, xs, (ls_same e1.i hl).sq⟩, ⟨G1, env, e1.i, E.mono e1.g, Post.bind p1 fun w dw G2 H2 _ e2 r2 p2 => ?_⟩⟩
      unfold dIndex at p2
      dsimp only at p2
      split at p2
      · rename_i hs'
        split at p2
        · rename_i j hj
          obtain ⟨z, z1, z2, z3⟩ := idxOf_ok hj
          exact ⟨l, w, dw, ds, j, z, rfl, rfl, (Rep.mono (e2.g.trans e2.i) (.lst hl r)).dp (canLay_sh hs'.2), (r2.mono e2.i).dp (canLay_sh hs'.1), hs'.2, hs'.1, z1, z2, z3, p2 _ G2 H2 (Ext.refl e2.i) (.int _)⟩
        · exact p2.elim
      · exact p2.elim
    | _ => exact p1.elim⟩
end

/-! ### a global that is a tuple -/
theorem globD_tup {K : PySem.W.Frag} {mg : Str → Option Value} {x : Str} {A : Addr} {its : Array Value} {n : Nat} {od : Option Addr} {sl : Array (Option Value)} {vs : List V} {ds : List PyData} (h : mg x = some (.ref A)) (hk : K.lookup A = some ⟨.type "tuple", od, .seq its n, sl⟩) (hz : its.size ≤ sizeLine) (hv : Vals vs its.toList) (r : ∀ G, RepA K G vs ds) : GlobD K mg x (.tuple ds) :=
  ⟨.ref A, _, h, rfl, fun G => .tup (.inr ⟨_, its, n, hk, rfl, rfl, hz, hv⟩) (r G)⟩
end PL
/-! PL, part r: fractions (plain Lean), loops and comprehensions by what each turn does. -/
namespace PL
open PySem PySem.Spec PyProof.Rows L2

/-! ### turns -/
theorem lcF_map {α : Type} {tg : GE} {tt : TF} {te : EF} {env : List (Option PyData)} (enc : α → PyData) (f : α → PyData) : ∀ xs : List α, (∀ x ∈ xs, ∃ e1, tg (enc x) env = some e1 ∧ tt e1 = .ok true ∧ te e1 = .ok (f x)) → lcF tg tt te (xs.map enc) env = .ok (xs.map f)
  | [], _ => rfl
  | x :: xs, h => by
    obtain ⟨e1, h1, h2, h3⟩ := h x List.mem_cons_self
    have ih := lcF_map enc f xs fun y hy => h y (List.mem_cons_of_mem _ hy)
    rw [List.map_cons, lcF, h1]
    dsimp only
    rw [h2, R.bind_ok, if_pos rfl, h3, R.bind_ok, ih, R.bind_ok, List.map_cons]
theorem lcF_flt {α : Type} {tg : GE} {tt : TF} {te : EF} {env : List (Option PyData)} (enc : α → PyData) (p : α → Bool) (f : α → PyData) : ∀ xs : List α, (∀ x ∈ xs, ∃ e1, tg (enc x) env = some e1 ∧ tt e1 = .ok (p x) ∧ (p x = true → te e1 = .ok (f x))) → lcF tg tt te (xs.map enc) env = .ok ((xs.filter p).map f)
  | [], _ => rfl
  | x :: xs, h => by
    obtain ⟨e1, h1, h2, h3⟩ := h x List.mem_cons_self
    have ih := lcF_flt enc p f xs fun y hy => h y (List.mem_cons_of_mem _ hy)
    rw [List.map_cons, lcF, h1]
    dsimp only
    rw [h2, R.bind_ok]
    by_cases hp : p x = true
    · rw [if_pos hp, h3 hp, R.bind_ok, ih, R.bind_ok, List.filter_cons_of_pos hp, List.map_cons]
    · rw [if_neg hp, ih, List.filter_cons_of_neg hp]
theorem eLc_ok {α : Type} {tg : GE} {fi : LF} {tt : TF} {te : EF} {env : List (Option PyData)} (enc f : α → PyData) (xs : List α) (hi : fi env = .ok (xs.map enc)) (hl : xs.length ≤ 900000) (h : ∀ x ∈ xs, ∃ e1, tg (enc x) env = some e1 ∧ tt e1 = .ok true ∧ te e1 = .ok (f x)) : eLc tg fi tt te env = .ok (.list (xs.map f)) := by
  unfold eLc
  rw [hi, R.bind_ok, lcF_map enc f xs h, R.sure_ok, R.bind_ok]
  unfold lcE
  rw [if_pos (by rw [List.length_map]; exact szl_big hl)]
theorem eLc_flt {α : Type} {tg : GE} {fi : LF} {tt : TF} {te : EF} {env : List (Option PyData)} (enc f : α → PyData) (p : α → Bool) (xs : List α) (hi : fi env = .ok (xs.map enc)) (hl : xs.length ≤ 900000) (h : ∀ x ∈ xs, ∃ e1, tg (enc x) env = some e1 ∧ tt e1 = .ok (p x) ∧ (p x = true → te e1 = .ok (f x))) : eLc tg fi tt te env = .ok (.list ((xs.filter p).map f)) := by
  unfold eLc
  rw [hi, R.bind_ok, lcF_flt enc p f xs h, R.sure_ok, R.bind_ok]
  unfold lcE
  rw [if_pos (by rw [List.length_map]; exact szl_big (Nat.le_trans (List.length_filter_le _ _) hl))]
theorem forF_fold {α β : Type} {tg : GF} {body : SF} (enc : α → PyData) (step : β → α → β) (I : β → Ev → Prop) : ∀ (xs : List α) (b : β) (env : Ev), I b env → (∀ b env, I b env → ∀ x ∈ xs, ∃ e1 e2, tg (enc x) env = some e1 ∧ body e1 = .nx e2 ∧ I (step b x) e2) → ∃ e, forF tg body (xs.map enc) env = .nx e ∧ I (xs.foldl step b) e
  | [], b, env, h, _ => ⟨env, rfl, h⟩
  | x :: xs, b, env, h, hs => by
    obtain ⟨e1, e2, h1, h2, h3⟩ := hs b env h x List.mem_cons_self
    obtain ⟨e, h4, h5⟩ := forF_fold enc step I xs (step b x) e2 h3 fun b env hb y hy => hs b env hb y (List.mem_cons_of_mem _ hy)
    refine ⟨e, ?_, h5⟩
    rw [List.map_cons, forF, h1]
    dsimp only
    rw [h2, Out.loop_nx, h4]

theorem forF_idx {α β : Type} {tg : GF} {body : SF} (enc : α → PyData) (step : β → α → β) (I : Nat → β → Ev → Prop) : ∀ (xs : List α) (k : Nat) (b : β) (env : Ev), I k b env → (∀ i b env, I i b env → k ≤ i → i < k + xs.length → ∀ x ∈ xs, ∃ e1 e2, tg (enc x) env = some e1 ∧ body e1 = .nx e2 ∧ I (i + 1) (step b x) e2) → ∃ e, forF tg body (xs.map enc) env = .nx e ∧ I (k + xs.length) (xs.foldl step b) e
  | [], k, b, env, h, _ => ⟨env, rfl, h⟩
  | x :: xs, k, b, env, h, hs => by
    obtain ⟨e1, e2, h1, h2, h3⟩ := hs k b env h (Nat.le_refl _) (by simp) x List.mem_cons_self
    obtain ⟨e, h4, h5⟩ := forF_idx enc step I xs (k + 1) (step b x) e2 h3 fun i b env hb hi hl y hy => hs i b env hb (by omega) (by simp only [List.length_cons]; omega) y (List.mem_cons_of_mem _ hy)
    refine ⟨e, ?_, ?_⟩
    · rw [List.map_cons, forF, h1]
      dsimp only
      rw [h2, Out.loop_nx, h4]
    · rw [List.length_cons, List.foldl_cons, show k + (xs.length + 1) = k + 1 + xs.length by omega]
      exact h5

theorem rng1_nat (n : Nat) (h : n ≤ 900000) : rng1 [.int (n : Int)] = .ok (rngF 0 n) := by
  have hlim := lim_eq
  unfold rng1
  dsimp only
  rw [if_pos ⟨by omega, by omega⟩, Int.toNat_natCast]

/-! ### turns enough -/
theorem ex_fuel : ∃ n : Nat, 20000 ≤ n := ⟨20000, Nat.le_refl _⟩
noncomputable def fuelW : Nat := Classical.choose ex_fuel
theorem fuelW_ge : 20000 ≤ fuelW := Classical.choose_spec ex_fuel

/-! ### Euclid -/
theorem gcd_step (a b : Int) (ha : 0 ≤ a) (hb : 0 ≤ b) : Int.gcd a b = Int.gcd b (a % b) := by
  obtain ⟨x, rfl⟩ := Int.eq_ofNat_of_zero_le ha
  obtain ⟨y, rfl⟩ := Int.eq_ofNat_of_zero_le hb
  rw [← Int.natCast_emod]
  show Nat.gcd x y = Nat.gcd y (x % y)
  rw [Nat.gcd_comm x y, Nat.gcd_rec y x, Nat.gcd_comm]
theorem euclid {t : TF} {body : SF} (E : Int → Int → Ev) (ht : ∀ a b, t ((E a b).map Sl.full) = .ok (decide (0 < b))) (hb : ∀ a b, 0 < b → body (E a b) = .nx (E b (a % b))) :
    ∀ (k n : Nat) (a b : Int), 0 ≤ a → 0 ≤ b → b < 2 ^ k → 2 * k + 1 ≤ n → whileF t body n (E a b) = .nx (E (Int.gcd a b) 0) := by
  intro k
  induction k with
  | zero =>
    intro n a b ha hb0 hk hn
    have : b = 0 := by
      have : (2 : Int) ^ 0 = 1 := rfl
      omega
    subst this
    obtain ⟨m, rfl⟩ : ∃ m, n = m + 1 := ⟨n - 1, by omega⟩
    rw [whileF, ht]
    have : ((Int.gcd a 0 : Nat) : Int) = a := by rw [Int.gcd_zero_right]; omega
    rw [this]
    simp
  | succ k ih =>
    intro n a b ha hb0 hk hn
    obtain ⟨m, rfl⟩ : ∃ m, n = m + 2 := ⟨n - 2, by omega⟩
    have stop : ∀ (m : Nat) (a : Int), 0 ≤ a → whileF t body (m + 1) (E a 0) = .nx (E a 0) := fun m a _ => by
      rw [whileF, ht]
      simp
    have g0 : ∀ a : Int, 0 ≤ a → ((Int.gcd a 0 : Nat) : Int) = a := fun a ha => by rw [Int.gcd_zero_right]; omega
    by_cases hz : b = 0
    · subst hz
      rw [stop _ a ha, g0 a ha]
    · have hbp : 0 < b := by omega
      rw [whileF, ht]
      simp only [hbp, decide_true, R.outB_ok, if_true]
      rw [hb a b hbp, Out.loop_nx]
      have h1 : 0 ≤ a % b := Int.emod_nonneg _ (by omega)
      have h2 : a % b < b := Int.emod_lt_of_pos _ hbp
      have e1 : Int.gcd a b = Int.gcd b (a % b) := gcd_step a b ha hb0
      by_cases hz2 : a % b = 0
      · rw [hz2, stop _ b hb0, e1, hz2, g0 b hb0]
      · have hp2 : 0 < a % b := by omega
        rw [whileF, ht]
        simp only [hp2, decide_true, R.outB_ok, if_true]
        rw [hb b (a % b) hp2, Out.loop_nx]
        have h3 : 0 ≤ b % (a % b) := Int.emod_nonneg _ (by omega)
        have h4 : b % (a % b) < a % b := Int.emod_lt_of_pos _ hp2
        have h5 : b % (a % b) < 2 ^ k := by
          have e : (2 : Int) ^ (k + 1) = 2 * 2 ^ k := by rw [Int.pow_succ]; omega
          rcases Int.lt_or_le (a % b) (2 ^ k) with q | q
          · omega
          · have hd : b / (a % b) = 1 := by
              apply Int.le_antisymm
              · have : b / (a % b) < 2 := Int.ediv_lt_of_lt_mul hp2 (by omega)
                omega
              · exact Int.le_ediv_of_mul_le hp2 (by omega)
            have := Int.emod_add_mul_ediv b (a % b)
            rw [hd] at this
            omega
        rw [ih m (a % b) (b % (a % b)) h1 h3 h5 (by omega), e1, gcd_step b (a % b) hb0 h1]

/-! ### fractions -/
noncomputable def frD (r : Rat) : PyData := shut (.tuple [.int r.num, .int r.den])
theorem frD_eq (r : Rat) : frD r = .tuple [.int r.num, .int r.den] := shut_eq _
/-- n bits -/
def Bq (n : Nat) (r : Rat) : Prop := r.num.natAbs < 2 ^ n ∧ r.den < 2 ^ n
theorem Bq.mono {n m : Nat} {r : Rat} (h : Bq n r) (e : n ≤ m) : Bq m r := ⟨Nat.lt_of_lt_of_le h.1 (Nat.pow_le_pow_right (by decide) e), Nat.lt_of_lt_of_le h.2 (Nat.pow_le_pow_right (by decide) e)⟩
theorem bq_mk {n : Nat} {a : Int} {b : Nat} (hb : b ≠ 0) (h1 : a.natAbs < 2 ^ n) (h2 : b < 2 ^ n) : Bq n (mkRat a b) := by
  refine ⟨?_, ?_⟩
  · rw [Rat.num_mkRat, if_neg hb]
    exact Nat.lt_of_le_of_lt (Int.natAbs_ediv_le_natAbs _ _) h1
  · rw [Rat.den_mkRat, if_neg hb]
    exact Nat.lt_of_le_of_lt (Nat.div_le_self _ _) h2
theorem mul_lt2 {a b n m : Nat} (h1 : a < 2 ^ n) (h2 : b < 2 ^ m) : a * b < 2 ^ (n + m) := by
  rw [Nat.pow_add]
  exact Nat.mul_lt_mul'' h1 h2
theorem bq_add {n m : Nat} {a b : Rat} (ha : Bq n a) (hb : Bq m b) : Bq (n + m + 1) (a + b) := by
  rw [Rat.add_def']
  refine bq_mk (Nat.mul_ne_zero a.den_nz b.den_nz) ?_ ?_
  · have h1 := mul_lt2 ha.1 hb.2
    have h2 := mul_lt2 hb.1 ha.2
    have e1 : (a.num * (b.den : Int)).natAbs = a.num.natAbs * b.den := by rw [Int.natAbs_mul]; rfl
    have e2 : (b.num * (a.den : Int)).natAbs = b.num.natAbs * a.den := by rw [Int.natAbs_mul]; rfl
    have h3 := Int.natAbs_add_le (a.num * (b.den : Int)) (b.num * (a.den : Int))
    rw [e1, e2] at h3
    rw [Nat.add_comm m n] at h2
    rw [Nat.pow_succ]
    omega
  · have h1 := mul_lt2 ha.2 hb.2
    rw [Nat.pow_succ]
    omega
theorem bq_mul {n m : Nat} {a b : Rat} (ha : Bq n a) (hb : Bq m b) : Bq (n + m) (a * b) := by
  rw [Rat.mul_def']
  refine bq_mk (Nat.mul_ne_zero a.den_nz b.den_nz) ?_ (mul_lt2 ha.2 hb.2)
  rw [Int.natAbs_mul]
  exact mul_lt2 ha.1 hb.1
theorem bq_inv {n : Nat} (hn : 1 ≤ n) {a : Rat} (ha : Bq n a) : Bq n a⁻¹ := by
  refine ⟨?_, ?_⟩
  · rw [Rat.num_inv, Int.natAbs_mul]
    have hs : a.num.sign.natAbs ≤ 1 := by
      rcases Int.lt_trichotomy a.num 0 with h | h | h
      · rw [Int.sign_eq_neg_one_of_neg h]; decide
      · rw [h]; decide
      · rw [Int.sign_eq_one_of_pos h]; decide
    refine Nat.lt_of_le_of_lt (Nat.mul_le_mul_right _ hs) ?_
    rw [Nat.one_mul]
    exact ha.2
  · rw [Rat.den_inv]
    split
    · exact Nat.lt_of_lt_of_le (by decide) (Nat.pow_le_pow_right (by decide) hn)
    · exact ha.1
theorem bq_div {n m : Nat} (hm : 1 ≤ m) {a b : Rat} (ha : Bq n a) (hb : Bq m b) : Bq (n + m) (a / b) := by
  rw [Rat.div_def]
  exact bq_mul ha (bq_inv hm hb)
theorem bq_int {n : Nat} (i : Int) (h : i.natAbs < 2 ^ n) (hn : 1 ≤ n) : Bq n (i : Rat) := ⟨h, Nat.lt_of_lt_of_le (show 1 < 2 ^ 1 by decide) (Nat.pow_le_pow_right (by decide) hn)⟩
theorem frD_inj {a b : Rat} (h : frD a = frD b) : a = b := by
  rw [frD_eq, frD_eq] at h
  injection h with h
  injection h with h1 h2
  injection h2 with h2 _
  injection h1 with h1
  injection h2 with h2
  exact Rat.ext h1 (by omega)
/-- what Euclid's division leaves -/
theorem frac_of (top under : Int) (h : 0 < under) : PyData.tuple [.int (top / (Int.gcd (if top < 0 then -top else top) under : Nat)), .int (under / (Int.gcd (if top < 0 then -top else top) under : Nat))] = frD (mkRat top under.toNat) := by
  have hg : Int.gcd (if top < 0 then -top else top) under = under.toNat.gcd top.natAbs := by
    unfold Int.gcd
    rw [Nat.gcd_comm]
    congr 1
    · omega
    · split <;> omega
  have hu : under.toNat ≠ 0 := by omega
  rw [frD_eq, hg, Rat.num_mkRat, Rat.den_mkRat, if_neg hu, if_neg hu]
  congr 3
  rw [Int.natCast_ediv]
  congr 2
  omega
@[simp] theorem dIx_fr0 (r : Rat) : dIx (frD r) (.int 0) = .ok (.int r.num) := by rw [frD_eq]; exact dIx_t0
@[simp] theorem dIx_fr1 (r : Rat) : dIx (frD r) (.int 1) = .ok (.int r.den) := by rw [frD_eq]; exact dIx_t1
theorem shp_fr (n : Nat) (r : Rat) : Shp (n + 1) (frD r) := by rw [frD_eq]; exact shp_tuple (shpA_cons (shp_int _ _) (shpA_cons (shp_int _ _) (shpA_nil _)))
@[simp] theorem shaped_fr (r : Rat) : SeqAt.shaped (frD r) = true := shaped_of (shp_fr 0 r) (by decide)
theorem eqv_fr (a b : Rat) : PyData.eqv (frD a) (frD b) = decide (a = b) := by
  simp only [frD_eq, PyData.eqv, PyData.eqvAll, Bool.and_true]
  by_cases h : a = b
  · subst h; simp
  · rw [decide_eq_false h]
    by_cases h1 : a.num = b.num
    · have : a.den ≠ b.den := fun z => h (Rat.ext h1 z)
      simp [h1]
      omega
    · simp [h1]
theorem dEq_fr (a b : Rat) : dEq (frD a) (frD b) = .ok (.bool (decide (a = b))) := by rw [dEq_shp (shaped_fr a) (shaped_fr b), eqv_fr]
theorem dNe_fr (a b : Rat) : dNe (frD a) (frD b) = .ok (.bool (!decide (a = b))) := by rw [dNe_shp (shaped_fr a) (shaped_fr b), eqv_fr]
theorem fr_int (i : Int) : PyData.tuple [.int i, .int 1] = frD (i : Rat) := by rw [frD_eq]; rfl
theorem fr_zero : PyData.tuple [.int 0, .int 1] = frD 0 := by rw [frD_eq]; rfl
theorem fr_one : PyData.tuple [.int 1, .int 1] = frD 1 := by rw [frD_eq]; rfl

/-! ### sums, the greatest -/
def qsum : List Rat → Rat
  | [] => 0
  | r :: rs => r + qsum rs
theorem qsum_foldl : ∀ (rs : List Rat) (a : Rat), rs.foldl (· + ·) a = a + qsum rs
  | [], a => by simp [qsum, Rat.add_zero]
  | r :: rs, a => by
    rw [List.foldl_cons, qsum_foldl rs (a + r)]
    simp only [qsum]
    rw [Rat.add_assoc]
def qmx : Rat → List Rat → Rat
  | f, [] => f
  | f, r :: rs => qmx (if f < r then r else f) rs
def qmax : List Rat → Rat
  | [] => 0
  | r :: rs => qmx r (r :: rs)
theorem qmx_foldl : ∀ (rs : List Rat) (a : Rat), rs.foldl (fun f r => if f < r then r else f) a = qmx a rs
  | [], a => rfl
  | r :: rs, a => by rw [List.foldl_cons, qmx, qmx_foldl rs]
theorem qmx_spec : ∀ (rs : List Rat) (f : Rat), (qmx f rs = f ∨ qmx f rs ∈ rs) ∧ f ≤ qmx f rs ∧ ∀ r ∈ rs, r ≤ qmx f rs
  | [], f => ⟨.inl rfl, Rat.le_refl, by simp⟩
  | r :: rs, f => by
    obtain ⟨h1, h2, h3⟩ := qmx_spec rs (if f < r then r else f)
    rw [qmx]
    by_cases h : f < r
    · rw [if_pos h] at h1 h2 h3 ⊢
      refine ⟨.inr ?_, Rat.le_trans (Rat.le_of_lt h) h2, fun x hx => ?_⟩
      · rcases h1 with h1 | h1
        · rw [h1]; exact List.mem_cons_self
        · exact List.mem_cons_of_mem _ h1
      · rcases List.mem_cons.mp hx with rfl | hx
        · exact h2
        · exact h3 x hx
    · rw [if_neg h] at h1 h2 h3 ⊢
      refine ⟨h1.imp id (List.mem_cons_of_mem _), h2, fun x hx => ?_⟩
      rcases List.mem_cons.mp hx with rfl | hx
      · exact Rat.le_trans (Rat.not_lt.mp h) h2
      · exact h3 x hx
theorem qmax_mem {rs : List Rat} (h : rs ≠ []) : qmax rs ∈ rs := by
  cases rs with
  | nil => exact absurd rfl h
  | cons r rs =>
    have := (qmx_spec (r :: rs) r).1
    rcases this with h | h
    · show qmx r (r :: rs) ∈ r :: rs
      rw [h]
      exact List.mem_cons_self
    · exact h
theorem le_qmax {rs : List Rat} {r : Rat} (h : r ∈ rs) : r ≤ qmax rs := by
  cases rs with
  | nil => cases h
  | cons s rs => exact (qmx_spec (s :: rs) s).2.2 r h
end PL
/-! PL, part s: comprehensions as plain maps; walks as maps. -/
namespace PL
open PySem PySem.Spec PyProof.Rows L2

def mapR {α β : Type} (f : α → R β) : List α → R (List β)
  | [] => .ok []
  | x :: xs => (f x).bind fun y => (mapR f xs).bind fun ys => .ok (y :: ys)
def fltR {α β : Type} (t : α → R Bool) (f : α → R β) : List α → R (List β)
  | [] => .ok []
  | x :: xs => (t x).bind fun b => if b = true then (f x).bind fun y => (fltR t f xs).bind fun ys => .ok (y :: ys) else fltR t f xs
noncomputable def mapL {α : Type} (f : α → R PyData) (xs : List α) : R PyData := ((mapR f xs).sure).bind lcE
noncomputable def fltL {α : Type} (t : α → R Bool) (f : α → R PyData) (xs : List α) : R PyData := ((fltR t f xs).sure).bind lcE
theorem mapR_map {α β γ : Type} (f : β → R γ) (g : α → β) : ∀ xs : List α, mapR f (xs.map g) = mapR (fun x => f (g x)) xs
  | [] => rfl
  | x :: xs => by rw [List.map_cons, mapR, mapR, mapR_map f g xs]
theorem mapR_ok {α β : Type} {f : α → R β} {g : α → β} : ∀ {xs : List α}, (∀ x ∈ xs, f x = .ok (g x)) → mapR f xs = .ok (xs.map g)
  | [], _ => rfl
  | x :: xs, h => by rw [mapR, h x List.mem_cons_self, mapR_ok fun y hy => h y (List.mem_cons_of_mem _ hy)]; rfl
theorem fltR_ok {α β : Type} {t : α → R Bool} {f : α → R β} {p : α → Bool} {g : α → β} : ∀ {xs : List α}, (∀ x ∈ xs, t x = .ok (p x)) → (∀ x ∈ xs, p x = true → f x = .ok (g x)) → fltR t f xs = .ok ((xs.filter p).map g)
  | [], _, _ => rfl
  | x :: xs, h, h2 => by
    have ih := fltR_ok (t := t) (f := f) (p := p) (g := g) (xs := xs) (fun y hy => h y (List.mem_cons_of_mem _ hy)) fun y hy => h2 y (List.mem_cons_of_mem _ hy)
    rw [fltR, h x List.mem_cons_self, R.bind_ok]
    by_cases hp : p x = true
    · rw [if_pos hp, h2 x List.mem_cons_self hp, R.bind_ok, ih, R.bind_ok, List.filter_cons_of_pos hp, List.map_cons]
    · rw [if_neg hp, ih, List.filter_cons_of_neg hp]
theorem mapL_ok {α β : Type} {f : β → R PyData} {enc : α → β} {g : α → PyData} {xs : List α} (h : ∀ x ∈ xs, f (enc x) = .ok (g x)) (hl : xs.length ≤ 900000) : mapL f (xs.map enc) = .ok (.list (xs.map g)) := by
  unfold mapL
  rw [mapR_map, mapR_ok h, R.sure_ok, R.bind_ok]
  unfold lcE
  rw [if_pos (by rw [List.length_map]; exact szl_big hl)]
theorem fltR_map {α β γ : Type} (t : β → R Bool) (f : β → R γ) (g : α → β) : ∀ xs : List α, fltR t f (xs.map g) = fltR (fun x => t (g x)) (fun x => f (g x)) xs
  | [] => rfl
  | x :: xs => by rw [List.map_cons, fltR, fltR, fltR_map t f g xs]
theorem fltL_ok {α β : Type} {t : β → R Bool} {f : β → R PyData} {enc : α → β} {p : α → Bool} {g : α → PyData} {xs : List α} (h : ∀ x ∈ xs, t (enc x) = .ok (p x)) (h2 : ∀ x ∈ xs, p x = true → f (enc x) = .ok (g x)) (hl : xs.length ≤ 900000) : fltL t f (xs.map enc) = .ok (.list ((xs.filter p).map g)) := by
  unfold fltL
  rw [fltR_map, fltR_ok h h2, R.sure_ok, R.bind_ok]
  unfold lcE
  rw [if_pos (by rw [List.length_map]; exact szl_big (Nat.le_trans (List.length_filter_le _ _) hl))]
@[simp] theorem mapL_nil {α : Type} (f : α → R PyData) : mapL f [] = .ok (.list []) := by
  unfold mapL mapR
  rw [R.sure_ok, R.bind_ok]
  exact if_pos (szl_big (by simp))
/-- small lists, one by one -/
theorem mapL_cons {α : Type} {f : α → R PyData} {x : α} {xs : List α} {y : PyData} {ys : List PyData} (h : f x = .ok y) (h2 : mapL f xs = .ok (.list ys)) (hl : xs.length ≤ 900000) : mapL f (x :: xs) = .ok (.list (y :: ys)) := by
  unfold mapL at h2 ⊢
  rw [mapR, h, R.bind_ok]
  have len : ∀ {xs : List α} {ys : List PyData}, mapR f xs = .ok ys → ys.length = xs.length := by
    intro xs
    induction xs with
    | nil => intro ys h; cases h; rfl
    | cons x xs ih =>
      intro ys h
      rw [mapR] at h
      cases e : f x with
      | ok y =>
        rw [e, R.bind_ok] at h
        cases e2 : mapR f xs with
        | ok zs => rw [e2, R.bind_ok] at h; cases h; rw [List.length_cons, List.length_cons, ih e2]
        | ex c => rw [e2] at h; cases h
        | no => rw [e2] at h; cases h
      | ex c => rw [e] at h; cases h
      | no => rw [e] at h; cases h
  cases e : mapR f xs with
  | ok zs =>
    rw [e, R.sure_ok, R.bind_ok] at h2
    have l := len e
    unfold lcE at h2 ⊢
    rw [if_pos (szl_big (by omega))] at h2
    cases h2
    rw [R.bind_ok, R.sure_ok, R.bind_ok]
    rw [if_pos (by rw [List.length_cons]; rw [szl_eq]; omega)]
  | ex c => rw [e] at h2; cases h2
  | no => rw [e] at h2; cases h2

/-- the targets of a comprehension that are a tuple -/
def cTm (is : List Nat) (te : EF) (env : List (Option PyData)) (d : PyData) : R PyData := match cT is d env with
  | some e => te e
  | none => .no
def cTb (is : List Nat) (te : TF) (env : List (Option PyData)) (d : PyData) : R Bool := match cT is d env with
  | some e => te e
  | none => .no
@[simp] theorem cTm_2 (i j : Nat) (te : EF) (env : List (Option PyData)) (a b : PyData) : cTm [i, j] te env (.tuple [a, b]) = te ((env.set i (some a)).set j (some b)) := rfl
@[simp] theorem cTm_3 (i j k : Nat) (te : EF) (env : List (Option PyData)) (a b c : PyData) : cTm [i, j, k] te env (.tuple [a, b, c]) = te (((env.set i (some a)).set j (some b)).set k (some c)) := rfl
@[simp] theorem cTb_2 (i j : Nat) (te : TF) (env : List (Option PyData)) (a b : PyData) : cTb [i, j] te env (.tuple [a, b]) = te ((env.set i (some a)).set j (some b)) := rfl
@[simp] theorem cTb_3 (i j k : Nat) (te : TF) (env : List (Option PyData)) (a b c : PyData) : cTb [i, j, k] te env (.tuple [a, b, c]) = te (((env.set i (some a)).set j (some b)).set k (some c)) := rfl
section
variable {fi : LF} {tt : TF} {te : EF} {env : List (Option PyData)} {i : Nat} {is : List Nat}
theorem lcF_mapR (tg : GE) (h : PyData → R PyData) (hh : ∀ d, h d = match tg d env with | some e => te e | none => .no) : ∀ ds : List PyData, (lcF tg bYes te ds env).sure = (mapR h ds).sure
  | [] => rfl
  | d :: ds => by
    have ih := lcF_mapR tg h hh ds
    rw [lcF, mapR, hh]
    cases tg d env with
    | none => rfl
    | some e =>
      dsimp only
      show ((R.ok true).bind _).sure = _
      rw [R.bind_ok, if_pos rfl]
      cases te e with
      | ok y =>
        rw [R.bind_ok, R.bind_ok]
        cases e1 : lcF tg bYes te ds env <;> cases e2 : mapR h ds <;> rw [e1, e2] at ih <;> first | rfl | (cases ih; rfl) | cases ih
      | ex c => rfl
      | no => rfl
theorem eLc_N : eLc (cN i) fi bYes te env = (fi env).bind fun ds => mapL (fun d => te (env.set i (some d))) ds := by
  unfold eLc mapL
  congr 1
  funext ds
  rw [lcF_mapR (cN i) (fun d => te (env.set i (some d))) fun d => rfl]
theorem eLc_T : eLc (cT is) fi bYes te env = (fi env).bind fun ds => mapL (fun d => cTm is te env d) ds := by
  unfold eLc mapL
  congr 1
  funext ds
  rw [lcF_mapR (cT is) (fun d => cTm is te env d) fun d => rfl]
theorem lcF_fltR (tg : GE) (t : PyData → R Bool) (h : PyData → R PyData) (ht : ∀ d, t d = match tg d env with | some e => tt e | none => .no) (hh : ∀ d, h d = match tg d env with | some e => te e | none => .no) : ∀ ds : List PyData, (lcF tg tt te ds env).sure = (fltR t h ds).sure
  | [] => rfl
  | d :: ds => by
    have ih := lcF_fltR tg t h ht hh ds
    rw [lcF, fltR, ht, hh]
    cases tg d env with
    | none => rfl
    | some e =>
      dsimp only
      cases tt e with
      | ok b =>
        rw [R.bind_ok, R.bind_ok]
        cases b with
        | false => rw [if_neg (by simp), if_neg (by simp)]; exact ih
        | true =>
          rw [if_pos rfl, if_pos rfl]
          cases te e with
          | ok y =>
            rw [R.bind_ok, R.bind_ok]
            cases e1 : lcF tg tt te ds env <;> cases e2 : fltR t h ds <;> rw [e1, e2] at ih <;> first | rfl | (cases ih; rfl) | cases ih
          | ex c => rfl
          | no => rfl
      | ex c => rfl
      | no => rfl
theorem eLc_NF : eLc (cN i) fi tt te env = (fi env).bind fun ds => fltL (fun d => tt (env.set i (some d))) (fun d => te (env.set i (some d))) ds := by
  unfold eLc fltL
  congr 1
  funext ds
  rw [lcF_fltR (cN i) (fun d => tt (env.set i (some d))) (fun d => te (env.set i (some d))) (fun d => rfl) fun d => rfl]
theorem eLc_TF : eLc (cT is) fi tt te env = (fi env).bind fun ds => fltL (fun d => cTb is tt env d) (fun d => cTm is te env d) ds := by
  unfold eLc fltL
  congr 1
  funext ds
  rw [lcF_fltR (cT is) (fun d => cTb is tt env d) (fun d => cTm is te env d) (fun d => rfl) fun d => rfl]
end
@[simp] theorem items_list (ds : List PyData) : itemsOf (.list ds) = .ok ds := rfl
@[simp] theorem items_tuple (ds : List PyData) : itemsOf (.tuple ds) = .ok ds := rfl
/-- a loop by the place of its turn -/
theorem forF_at {α : Type} {tg : GF} {body : SF} (enc : α → PyData) (I : Nat → Ev → Prop) : ∀ (xs : List α) (k : Nat) (env : Ev), I k env → (∀ (i : Nat) (hi : i < xs.length) (env : Ev), I (k + i) env → ∃ e1 e2, tg (enc xs[i]) env = some e1 ∧ body e1 = .nx e2 ∧ I (k + i + 1) e2) → ∃ e, forF tg body (xs.map enc) env = .nx e ∧ I (k + xs.length) e
  | [], k, env, h, _ => ⟨env, rfl, h⟩
  | x :: xs, k, env, h, hs => by
    obtain ⟨e1, e2, h1, h2, h3⟩ := hs 0 (by simp) env h
    obtain ⟨e, h4, h5⟩ := forF_at enc I xs (k + 1) e2 h3 fun i hi env hI => by
      have := hs (i + 1) (by simpa using hi) env (by rw [show k + (i + 1) = k + 1 + i by omega]; exact hI)
      rw [show k + (i + 1) + 1 = k + 1 + i + 1 by omega] at this
      simpa using this
    refine ⟨e, ?_, ?_⟩
    · have h1' : tg (enc x) env = some e1 := h1
      rw [List.map_cons, forF, h1']
      dsimp only
      rw [h2, Out.loop_nx, h4]
    · rw [List.length_cons, show k + (xs.length + 1) = k + 1 + xs.length by omega]
      exact h5
/-! ### walks -/
theorem rngF_map (n : Nat) : rngF 0 n = (List.range n).map fun i : Nat => PyData.int (i : Int) := by
  unfold rngF
  apply List.map_congr_left
  intro i _
  rw [Int.zero_add]
theorem enumF_go {α : Type} (f : α → PyData) : ∀ (xs : List α) (n : Nat), enumF n (xs.map f) = (xs.zipIdx n).map fun p => .tuple [.int ((p.2 : Nat) : Int), f p.1]
  | [], _ => rfl
  | x :: xs, n => by rw [List.map_cons, enumF, enumF_go f xs, List.zipIdx_cons, List.map_cons]
theorem enumF_map {α : Type} (f : α → PyData) (xs : List α) : enumF 0 (xs.map f) = xs.zipIdx.map fun p => .tuple [.int ((p.2 : Nat) : Int), f p.1] := enumF_go f xs 0
theorem zipF_map {α β : Type} (f : α → PyData) (g : β → PyData) (xs : List α) (ys : List β) : zipF (xs.map f) (ys.map g) = (xs.zip ys).map fun p => .tuple [f p.1, g p.2] := by
  unfold zipF
  rw [List.zipWith_map, List.zip, List.map_zipWith]
theorem zip2_map {α β : Type} (f : α → PyData) (g : β → PyData) (xs : List α) (ys : List β) : zip2 [.list (xs.map f), .list (ys.map g)] = .ok ((xs.zip ys).map fun p => .tuple [f p.1, g p.2]) := by
  show R.ok (zipF _ _) = _
  rw [zipF_map]
theorem enum1_map {α : Type} (f : α → PyData) (xs : List α) : enum1 [.list (xs.map f)] = .ok (xs.zipIdx.map fun p => .tuple [.int ((p.2 : Nat) : Int), f p.1]) := by
  show R.ok (enumF 0 _) = _
  rw [enumF_map]
theorem rng1_map (n : Nat) (h : n ≤ 900000) : rng1 [.int (n : Int)] = .ok ((List.range n).map fun i : Nat => .int (i : Int)) := by
  rw [rng1_nat n h, rngF_map]
theorem dIx_map {α : Type} (f : α → PyData) (xs : List α) (i : Nat) (h : i < xs.length) : dIx (.list (xs.map f)) (.int (i : Int)) = .ok (f xs[i]) := by
  rw [dIx_list (by simpa using h)]
  simp
theorem dIx_mapD {α : Type} (f : α → PyData) (xs : List α) (i : Nat) (z : α) (h : i < xs.length) : dIx (.list (xs.map f)) (.int (i : Int)) = .ok (f (xs.getD i z)) := by
  rw [dIx_map f xs i h]
  simp [List.getD, h]
end PL
/-! PL, part t: more words: xs[::-1]. -/
namespace PL
open PySem PySem.Spec PyProof.Rows L2
def dRev : PyData → R PyData
  | .list xs => .ok (.list xs.reverse)
  | _ => .no
theorem RepA.reverse {K : PySem.W.Frag} {G : Hp} : ∀ {vs : List V} {ds : List PyData}, RepA K G vs ds → RepA K G vs.reverse ds.reverse
  | _, _, .nil => .nil
  | _, _, .cons h r => by
    rw [List.reverse_cons, List.reverse_cons]
    exact (RepA.reverse r).append (.cons h .nil)
section
variable {X : Cx} {ec : Nat → Addr} {W : WX} {e : Expr} {f : EF} {pos p1 p2 p3 : Pos} {k : Nat}
theorem se_revL (he : PE X e (tD X.K ec W f)) : PE X (.Subscript e (.Slice none none (some (.UnaryOp .USub (.Constant (.int 1) k p1) p2)) p3) pos) (tD X.K ec W (eUn dRev f)) :=
  PE_imp (pe_revL he) fun σ H Q ⟨G, env, s, E, p⟩ => ⟨G, env, s, E, Post.bind p fun x dx G1 H1 _ e1 r1 p1 => by
    cases r1 with
    | @lst a xs ds ha r => exact ⟨a, xs, rfl, (ls_same e1.i ha).sq, fun q n => p1 _ _ _ (Ext.new e1.i n) (ext_list e1.i n r.reverse)⟩
    | _ => exact p1.elim⟩
end
@[simp] theorem dRev_list (xs : List PyData) : dRev (.list xs) = .ok (.list xs.reverse) := rfl
end PL
/-! PL, part u: sets of ints made of lists. -/
namespace PL
open PySem PySem.Spec PyProof.Rows L2
/-- the set that is still empty -/
abbrev set0 (w : World) : Obj := { cls := .type "set", dict := none, data := .set #[] 0 (.fresh 0 0 (!w.params.followText "set-order")) }
section
variable {P : Program} {w : World} {A : Around} {E : Value → Shared → Prop} {s : Shared}
theorem call_setL {l : Addr} {items : Array Value} (ns : List Int) {Q : Value → Shared → Prop} (hh : A.handled = none) (hl : s.heap.IsList l items) (hit : IntsAre items.toList ns) (hb : ns.length + 1 < scanBound)
    (hQ : ∀ (h' : Heap) (tk c : Nat), SetR w h' s.heap.objs.size (fun j => decide (j ∈ ns)) c → c ≤ ns.length → (∀ b o, s.heap.get? b = some o → h'.get? b = some o) → Q (.ref s.heap.objs.size) { s with heap := h', toks := tk }) :
    wpAny (model P w) A (call (.type "set") [.ref l]) Q E s := by
  have hisz : items.size = ns.length := by have q := IntsAre.length hit; rwa [Array.length_toList] at q
  obtain ⟨cc, tl, hmro⟩ := F.called_set.mro
  have hmade := F.called_set.made; have hsub := F.called_set.sub
  have k1 := F.called_set.notType; have k2 := F.called_set.canCreate; have k3 := F.typeCall_set_1 (.ref l)
  refine wpAny_call (codeAny_of_tree ?_)
  show wpAny _ _ (callAny (.type "set") _) _ _ _
  refine wpAny_pure ⟨Code.quiet_builtin _ (by decide +kernel), codeAny_builtin F.entry_type_call ?_⟩
  rw [Around.under_plain (weight_type_call_type "set" [.ref l] []) rfl]
  repeat (any_goals (first | assumption | wp_step))
  refine codeAny_mono (code_set_led1 (.ref l) (E := E) (Q₁ := fun obj s₁ => obj = .ref s.heap.objs.size ∧ s₁ = { s with heap := s.heap.push (set0 w) }) ⟨rfl, rfl⟩) fun r s₁ hr => ?_
  match r, hr with
  | .error e, hr => exact hr
  | .ok (.ret obj), hr =>
    obtain ⟨rfl, rfl⟩ := hr
    have hS : (s.heap.push (set0 w)).get? s.heap.objs.size = some (set0 w) := Heap.get?_push_size _ rfl
    have hT : Shared.TypeIs { s with heap := s.heap.push (set0 w) } (.ref s.heap.objs.size) "set" := ⟨_, hS, rfl⟩
    have k4 := F.called_set.init.lookup; have k5 := F.called_set.init.bind (.ref s.heap.objs.size)
    repeat (any_goals (first | assumption | wp_step))
    refine codeAny_mono (codeAny_call_builtin (R := wants (fun r s₂ => r = .none ∧ ∃ h' tk c, s₂ = { s with heap := h', toks := tk } ∧ SetR w h' s.heap.objs.size (fun j => decide (j ∈ ns)) c ∧ c ≤ ns.length ∧ ∀ b o, s.heap.get? b = some o → h'.get? b = some o) E) F.called_set.init.plain F.entry_set_init (check_set_init_1 hT ?_)) fun r₂ s₂ hr₂ => ?_
    · obtain ⟨⟨ocls, odict, odata, oslots⟩, hol, hcl, nl, hdl⟩ := hl
      simp only at hcl hdl
      subst hcl hdl
      have hol' : (s.heap.push (set0 w)).get? l = some { cls := .type "list", dict := odict, data := .seq items nl, slots := oslots } := Heap.get?_push_of_some _ hol
      have u1 := F.sub_list_set; have u2 := F.sub_list_frozenset
      have u3 : (Value.type "list" == Value.type "dict") = false := by decide
      have hl1 : (s.heap.push (set0 w)).IsList l items := ⟨_, hol', rfl, nl, rfl⟩
      unfold Builtin.«set.__init__» noKeywords Builtin.Frozenset.updateFrom
      generalize hPI : pyIter = PI
      wp_walk
      subst hPI
      refine wpAny_pyIter_list hl1 (wpAny_bind (wpAny_runValue ?_))
      have lS : l < s.heap.objs.size := Heap.lt_size hol
      have h3 : A.in1.in1.in1.handled = none := by simp [hh]
      have nI : l ≠ (s.heap.push (set0 w)).objs.size := fun z => by rw [Heap.size_push] at z; exact absurd z (Nat.ne_of_lt (Nat.lt_succ_of_lt lS))
      have nS : s.heap.objs.size ∉ [(s.heap.push (set0 w)).objs.size, l] := by
        rw [Heap.size_push, List.mem_cons, List.mem_singleton, not_or]
        exact ⟨Nat.ne_of_lt (Nat.lt_succ_self _), Nat.ne_of_gt lS⟩
      have hval : ∀ (i : Nat) (v : Value), items[i]? = some v → ∃ k t, ns[i]? = some k ∧ v = .int k t := fun i v hv => by
        have hi : i < ns.length := by rw [← hisz]; exact (Array.getElem?_eq_some_iff.mp hv).1
        obtain ⟨t, e⟩ := IntsAre.int_at hit i v (by rw [Array.getElem?_toList]; exact hv)
        refine ⟨ns[i], t, List.getElem?_eq_getElem hi, ?_⟩
        rw [e, List.getD_eq_getElem?_getD, List.getElem?_eq_getElem hi]
        rfl
      refine set_update_ints ((Walks.list h3 _ l nI items).toS) s.heap.objs.size nS ns hisz hb hval (items.size - 0) 0 _ (by omega) (Nat.zero_le _) ⟨⟨_, Heap.get?_push_size _ rfl, rfl, rfl⟩, (hl1.push _)⟩ ⟨0, Nat.le_refl 0, setR_new_at (Heap.get?_push_of_some _ hS)⟩ ?_
      intro s' c' hm hc' hS'
      obtain ⟨h', g2, d', tk', os'⟩ := s'
      have eg : g2 = s.gens := hm.gens
      have ed : d' = s.drawn := hm.drawn
      have eo : os' = s.os := hm.os
      subst eg ed eo
      show wpAny _ _ _ _ _ _
      refine wpAny_pure ?_
      show wpAny _ _ (ret Value.none) _ _ _
      rw [hisz] at hc'
      refine wpAny_pure ⟨rfl, h', tk', c', rfl, hS', hc', fun b o e => hm.heap b o ?_ (Heap.get?_push_of_some _ (Heap.get?_push_of_some _ e))⟩
      have b0 : b < s.heap.objs.size := Heap.lt_size e
      rw [Heap.size_push, List.mem_cons, List.mem_singleton, not_or]
      exact ⟨Nat.ne_of_lt b0, Nat.ne_of_lt (Nat.lt_succ_of_lt b0)⟩
    · match r₂, hr₂ with
      | .error e, hr₂ => exact hr₂
      | .ok (.ret r), hr₂ =>
        obtain ⟨rfl, h', tk, c', rfl, hS', hc', hk'⟩ := hr₂
        repeat (any_goals (first | assumption | wp_step))
        exact hQ _ _ _ hS' hc' hk'
      | .ok (.next ..), hr₂ => exact hr₂.elim
end

/-! ### sorted(set(xs)), len(set(xs)) of a list of ints -/
/-- the ints of a list, rising, each once -/
def insI (k : Int) : List Int → List Int
  | [] => [k]
  | x :: xs => if k < x then k :: x :: xs else if k = x then x :: xs else x :: insI k xs
def srtI : List Int → List Int
  | [] => []
  | k :: ks => insI k (srtI ks)
theorem mem_insI {k j : Int} : ∀ {xs : List Int}, j ∈ insI k xs ↔ j = k ∨ j ∈ xs
  | [] => by simp [insI]
  | x :: xs => by
    rw [insI]
    split
    · simp
    · split
      · rename_i h1 h2
        subst h2
        simp
      · rw [List.mem_cons, mem_insI (xs := xs), List.mem_cons]
        constructor
        · rintro (h | h | h)
          · exact .inr (.inl h)
          · exact .inl h
          · exact .inr (.inr h)
        · rintro (h | h | h)
          · exact .inr (.inl h)
          · exact .inl h
          · exact .inr (.inr h)
theorem mem_srtI {j : Int} : ∀ {ks : List Int}, j ∈ srtI ks ↔ j ∈ ks
  | [] => by simp [srtI]
  | k :: ks => by rw [srtI, mem_insI, mem_srtI (ks := ks), List.mem_cons]
theorem insI_lt {k : Int} : ∀ {xs : List Int}, xs.Pairwise (· < ·) → (insI k xs).Pairwise (· < ·)
  | [], _ => by simp [insI]
  | x :: xs, h => by
    rw [List.pairwise_cons] at h
    rw [insI]
    split
    · rename_i h1
      rw [List.pairwise_cons, List.pairwise_cons]
      refine ⟨fun y hy => ?_, h⟩
      rcases List.mem_cons.mp hy with rfl | hy
      · exact h1
      · have := h.1 y hy
        omega
    · split
      · rw [List.pairwise_cons]
        exact h
      · rename_i h1 h2
        rw [List.pairwise_cons]
        refine ⟨fun y hy => ?_, insI_lt h.2⟩
        rcases mem_insI.mp hy with rfl | hy
        · omega
        · exact h.1 y hy
theorem srtI_lt : ∀ ks : List Int, (srtI ks).Pairwise (· < ·)
  | [] => by simp [srtI]
  | k :: ks => insI_lt (srtI_lt ks)
theorem lt_unique : ∀ {a b : List Int}, a.Pairwise (· < ·) → b.Pairwise (· < ·) → (∀ k, k ∈ a ↔ k ∈ b) → a = b
  | [], [], _, _, _ => rfl
  | [], y :: b, _, _, h => by have := (h y).mpr List.mem_cons_self; cases this
  | x :: a, [], _, _, h => by have := (h x).mp List.mem_cons_self; cases this
  | x :: a, y :: b, ha, hb, h => by
    rw [List.pairwise_cons] at ha hb
    have e : x = y := by
      rcases List.mem_cons.mp ((h x).mp List.mem_cons_self) with h1 | h1
      · exact h1
      · rcases List.mem_cons.mp ((h y).mpr List.mem_cons_self) with h2 | h2
        · exact h2.symm
        · have := hb.1 x h1
          have := ha.1 y h2
          omega
    subst e
    rw [lt_unique ha.2 hb.2 fun k => ⟨fun hk => ?_, fun hk => ?_⟩]
    · rcases List.mem_cons.mp ((h k).mp (List.mem_cons_of_mem _ hk)) with h1 | h1
      · have := ha.1 k hk; omega
      · exact h1
    · rcases List.mem_cons.mp ((h k).mpr (List.mem_cons_of_mem _ hk)) with h1 | h1
      · have := hb.1 k hk; omega
      · exact h1
noncomputable def gSortSet : List PyData → R PyData
  | [.list ds] => match intsOf ds with
    | some ns => if ns.length < 60 then .ok (.list ((srtI ns).map .int)) else .no
    | none => .no
  | _ => .no
noncomputable def gLenSet : List PyData → R PyData
  | [.list ds] => match intsOf ds with
    | some ns => if ns.length < 60 then .ok (.int (srtI ns).length) else .no
    | none => .no
  | _ => .no
section
variable {X : Cx} {ec : Nat → Addr} {W : WX} {a : Expr} {f : EF} {p p2 q pos : Pos}
def rSetL (K : PySem.W.Frag) (w : World) : List V → Hp → VK → Prop := fun xs H Q => ∃ (l : Addr) (ns : List Int), xs = [.ref l] ∧ SqL K H l (ns.map V.int) ∧ ns.length < 60 ∧
  ∀ (t : Addr) (c : Nat), H t = none → c ≤ ns.length → Q (.ref t) (upd H t (SetO w t (fun j => decide (j ∈ ns)) c))
theorem cr_setL (hc : X.calm = true) : CallR X (.type "set") (rSetL X.K X.w) := by
  intro pins s σ H xs us Q I r h
  obtain ⟨l, ns, rfl, hq, hl, q⟩ := h
  rw [Vals.ref1 r]
  obtain ⟨its, rv, pl, hz⟩ := I.list hq
  refine call_setL ns (I.ok.hd hc) pl.isList (by simpa using ints_of_vals rv) (by unfold scanBound; omega) fun h' tk c hS hcn hk => ?_
  exact ⟨.ref _, upd H s.heap.objs.size (SetO X.w s.heap.objs.size (fun j => decide (j ∈ ns)) c), I.laid (t' := tk) hk (Nat.le_refl _) (setO_new hS), rfl, q _ c (I.hok.fresh (Nat.le_refl _)) hcn⟩
def rLenSet (w : World) : List V → Hp → VK → Prop := fun xs H Q => ∃ (t : Addr) (S : Int → Bool) (n : Nat), xs = [.ref t] ∧ H t = some (SetO w t S n) ∧ n < 4000 ∧ ∀ ns : List Int, ns.Pairwise (· < ·) → (∀ k : Int, k ∈ ns ↔ S k = true) → ns.length = n → Q (.int n) H
theorem ints_lt (l : List Int) (h : l.Nodup) : ∃ ns : List Int, ns.Pairwise (· < ·) ∧ (∀ k, k ∈ ns ↔ k ∈ l) ∧ ns.length = l.length := by
  induction l with
  | nil => exact ⟨[], by simp, by simp, rfl⟩
  | cons x l ih =>
    rw [List.nodup_cons] at h
    obtain ⟨ns, h1, h2, h3⟩ := ih h.2
    refine ⟨insI x ns, insI_lt h1, fun k => by rw [mem_insI, List.mem_cons, h2], ?_⟩
    have hx : x ∉ ns := fun z => h.1 ((h2 x).mp z)
    have len : ∀ {xs : List Int}, x ∉ xs → (insI x xs).length = xs.length + 1 := by
      intro xs
      induction xs with
      | nil => intro _; rfl
      | cons y ys ihy =>
        intro hy
        rw [insI]
        split
        · rfl
        · split
          · rename_i e
            exact absurd (by rw [e]; exact List.mem_cons_self) hy
          · rw [List.length_cons, ihy fun z => hy (List.mem_cons_of_mem _ z), List.length_cons]
    rw [len hx, h3, List.length_cons]
theorem cr_lenSet : CallR X (.builtin "len") (rLenSet X.w) := by
  intro pins s σ H xs us Q I r h
  obtain ⟨t, S, n, rfl, ht, hn, q⟩ := h
  rw [Vals.ref1 r]
  obtain ⟨o, es, ep, tb, ho, hex, hd, hg, hnd, hm, hsz, hf, hsn, _⟩ := setO_get I ht
  obtain ⟨ns, n1, n2, n3⟩ := ints_lt _ hnd
  refine call_len_set ho hex hd hf (by rw [hsn]; omega) ⟨.int n, H, I.tok _, ⟨_, by rw [hsn]⟩, q ns n1 (fun k => by rw [n2, hm]) (by rw [n3, List.length_map, Array.length_toList, hsn])⟩
theorem eCall_one (g : List PyData → R PyData) (f : EF) (env : List (Option PyData)) : eCall g [f] env = (f env).bind fun d => g [d] := by
  unfold eCall
  rw [aAll, aAll]
  cases f env <;> rfl
theorem se_sortSet (hc : X.calm = true) (hg : Gl X "sorted") (hm : X.mg "sorted" = none) (hg2 : Gl X "set") (hm2 : X.mg "set" = none) (ha : PE X a (tD X.K ec W f)) (na : starEach [a] X.env = (false, eval a X.env) :: starEach [] X.env := by rfl) (na2 : starEach [.Call (.Name "set" p2) [a] [] q] X.env = (false, eval (.Call (.Name "set" p2) [a] [] q) X.env) :: starEach [] X.env := by rfl) :
    PE X (.Call (.Name "sorted" p) [.Call (.Name "set" p2) [a] [] q] [] pos) (tD X.K ec W (eCall gSortSet [f])) :=
  PE_imp (pe_callB (cr_sortedSet hc) hg hm rfl (pa_cons (pe_callTy (cr_setL hc) hg2 hm2 rfl (pa_cons ha pa_nil na) (he := na)) pa_nil na2) (he := na2)) fun σ H Q ⟨G, env, s, E, pp⟩ => by
    rw [eCall_one] at pp
    refine ⟨G, env, s, E, Post.bind pp fun v d G1 H1 _ e1 r1 p1 => ?_⟩
    unfold gSortSet at p1
    split at p1
    · rename_i ds he
      cases he
      split at p1
      · rename_i ns hns
        split at p1
        · rename_i hlt
          obtain ⟨l, rfl, hq⟩ := ints_rd e1.i r1 hns
          refine ⟨l, ns, rfl, hq, hlt, fun t c ht hc1 => ⟨t, _, c, rfl, upd_same, by omega, fun ms o hp hmm hlen ho => ?_⟩⟩
          have e : ms = srtI ns := lt_unique hp (srtI_lt ns) fun k => by rw [hmm, mem_srtI, decide_eq_true_eq]
          subst e
          have not : o ≠ t := fun z => by subst z; rw [upd_same] at ho; cases ho
          have ho1 : H1 o = none := by rwa [upd_ne not] at ho
          have s1 : Same H1 (upd H1 t (SetO X.w t (fun j => decide (j ∈ ns)) c)) := same_new ht
          have e2 := Ext.heap e1.i s1
          exact p1 _ _ _ (e2.trans (Ext.new e2.i ho)) (ext_list e2.i ho (repA_ints _))
        · exact p1.elim
      · exact p1.elim
    · exact p1.elim
theorem se_lenSet (hc : X.calm = true) (hg : Gl X "len") (hm : X.mg "len" = none) (hg2 : Gl X "set") (hm2 : X.mg "set" = none) (ha : PE X a (tD X.K ec W f)) (na : starEach [a] X.env = (false, eval a X.env) :: starEach [] X.env := by rfl) (na2 : starEach [.Call (.Name "set" p2) [a] [] q] X.env = (false, eval (.Call (.Name "set" p2) [a] [] q) X.env) :: starEach [] X.env := by rfl) :
    PE X (.Call (.Name "len" p) [.Call (.Name "set" p2) [a] [] q] [] pos) (tD X.K ec W (eCall gLenSet [f])) :=
  PE_imp (pe_callB cr_lenSet hg hm rfl (pa_cons (pe_callTy (cr_setL hc) hg2 hm2 rfl (pa_cons ha pa_nil na) (he := na)) pa_nil na2) (he := na2)) fun σ H Q ⟨G, env, s, E, pp⟩ => by
    rw [eCall_one] at pp
    refine ⟨G, env, s, E, Post.bind pp fun v d G1 H1 _ e1 r1 p1 => ?_⟩
    unfold gLenSet at p1
    split at p1
    · rename_i ds he
      cases he
      split at p1
      · rename_i ns hns
        split at p1
        · rename_i hlt
          obtain ⟨l, rfl, hq⟩ := ints_rd e1.i r1 hns
          refine ⟨l, ns, rfl, hq, hlt, fun t c ht hc1 => ⟨t, _, c, rfl, upd_same, by omega, fun ms hp hmm hlen => ?_⟩⟩
          have e : ms = srtI ns := lt_unique hp (srtI_lt ns) fun k => by rw [hmm, mem_srtI, decide_eq_true_eq]
          subst e
          subst hlen
          exact p1 _ _ _ (Ext.heap e1.i (same_new ht)) (.int _)
        · exact p1.elim
      · exact p1.elim
    · exact p1.elim
end
end PL
/-! PL, part v: answers whose lists are all new; deep in of tuples. -/
namespace PL
open PySem PySem.Spec PyProof.Rows L2 L2H

/-! ### x in (a, b), deep -/
def rInT (K : PySem.W.Frag) : R2 := fun x y H Q => ∃ d ds, Dp K H x d ∧ Dp K H y (.tuple ds) ∧ SeqAt.shaped d = true ∧ SeqAt.shaped (.tuple ds) = true ∧ Q (.bl (ds.any fun z => PyData.eqv z d)) H
def dInT (x y : PyData) : R PyData := match y with
  | .tuple ds => if SeqAt.shaped x = true ∧ SeqAt.shaped (.tuple ds) = true then .ok (.bool (anyEq x ds)) else .no
  | _ => .no
section
variable {X : Cx} {K : PySem.W.Frag} {ec : Nat → Addr} {W : WX} {a b : Expr} {fa fb : EF} {pos : Pos}
theorem op_inT (hu : X.A.units + 65 < cLine) : OpR X (compareOp .In) (rInT X.K) := fun pins s σ H x y v u Q I rx ry ⟨d, ds, hd, he, sd, se, q⟩ => by
  obtain ⟨as, r1⟩ := Dp.reads I d x v hd rx
  obtain ⟨bs, r2⟩ := Dp.reads I (.tuple ds) y u he ry
  exact SeqAt.in_tuple_reads r2 r1 (SeqAt.canLay_of_shaped se) (SeqAt.canLay_of_shaped sd) (room_in_shaped sd hu) ⟨.bl _, H, I, rfl, q⟩
theorem od_inT : OpD K (rInT K) dInT := by
  intro x y dx dy d G H Q i rx ry h q
  cases ry with
  | @tup l ys es hl r =>
    unfold dInT at h
    dsimp only at h
    split at h
    · rename_i hs
      cases h
      exact ⟨dx, es, (rx.mono i).dp (SeqAt.canLay_of_shaped hs.1), (Rep.mono i (.tup hl r)).dp (SeqAt.canLay_of_shaped hs.2), hs.1, hs.2, q _ G H (Ext.refl i) (.bl _)⟩
    · cases h
  | _ => cases h
theorem nx_inT : NoEx dInT := by
  intro x y c h
  unfold dInT at h
  split at h
  · split at h <;> cases h
  · cases h
theorem se_inT (hu : X.A.units + 65 < cLine) (ha : PE X a (tD X.K ec W fa)) (hb : PE X b (tD X.K ec W fb)) (hm : behindInMarks .In b = false := by rfl) : PE X (.Compare a [.In] [b] pos) (tD X.K ec W (eBin dInT fa fb)) := se_cmp (op_inT hu) od_inT nx_inT ha hb hm
theorem st_inT (hu : X.A.units + 65 < cLine) (ha : PE X a (tD X.K ec W fa)) (hb : PE X b (tD X.K ec W fb)) (hm : behindInMarks .In b = false := by rfl) : PT X (.Compare a [.In] [b] pos) (tDT X.K ec W (bVal (eBin dInT fa fb))) := st_cmp (op_inT hu) od_inT nx_inT ha hb hm
end

/-! ### all lists new -/
mutual
inductive FrR (K : PySem.W.Frag) (N : Addr → Prop) (G : Hp) : V → PyData → Prop
  | non : FrR K N G .non .none
  | bl (b : Bool) : FrR K N G (.bl b) (.bool b)
  | int (i : Int) : FrR K N G (.int i) (.int i)
  | str (x : Str) : FrR K N G (.str x) (.str x)
  | lst {a : Addr} {xs : List V} {ds : List PyData} : G a = some (.lst xs) → N a → FrA K N G xs ds → FrR K N G (.ref a) (.list ds)
  | tup {a : Addr} {xs : List V} {ds : List PyData} : SqT K G a xs → FrA K N G xs ds → FrR K N G (.ref a) (.tuple ds)
inductive FrA (K : PySem.W.Frag) (N : Addr → Prop) (G : Hp) : List V → List PyData → Prop
  | nil : FrA K N G [] []
  | cons {v : V} {vs : List V} {d : PyData} {ds : List PyData} : FrR K N G v d → FrA K N G vs ds → FrA K N G (v :: vs) (d :: ds)
end
section
variable {K : PySem.W.Frag} {N N' : Addr → Prop} {G G' : Hp}
mutual
theorem FrR.rep : ∀ {v : V} {d : PyData}, FrR K N G v d → Rep K G v d
  | _, _, .non => .non
  | _, _, .bl b => .bl b
  | _, _, .int i => .int i
  | _, _, .str x => .str x
  | _, _, .lst h _ r => .lst (.of h) (FrA.rep r)
  | _, _, .tup h r => .tup h (FrA.rep r)
theorem FrA.rep : ∀ {vs : List V} {ds : List PyData}, FrA K N G vs ds → RepA K G vs ds
  | _, _, .nil => .nil
  | _, _, .cons h r => .cons (FrR.rep h) (FrA.rep r)
end
section
variable (e : Same G G') (hN : ∀ a, N a → N' a)
include e hN
mutual
theorem FrR.mono : ∀ {v : V} {d : PyData}, FrR K N G v d → FrR K N' G' v d
  | _, _, .non => .non
  | _, _, .bl b => .bl b
  | _, _, .int i => .int i
  | _, _, .str x => .str x
  | _, _, .lst h n r => .lst (e.lst h) (hN _ n) (FrA.mono r)
  | _, _, .tup h r => .tup (sqT_same e h) (FrA.mono r)
theorem FrA.mono : ∀ {vs : List V} {ds : List PyData}, FrA K N G vs ds → FrA K N' G' vs ds
  | _, _, .nil => .nil
  | _, _, .cons h r => .cons (FrR.mono h) (FrA.mono r)
end
end
theorem FrA.append : ∀ {vs ws : List V} {ds es : List PyData}, FrA K N G vs ds → FrA K N G ws es → FrA K N G (vs ++ ws) (ds ++ es)
  | _, _, _, _, .nil, s => s
  | _, _, _, _, .cons r t, s => .cons r (FrA.append t s)
theorem FrR.atom {v : V} {d : PyData} (r : Rep K G v d) (a : atomic d = true) : FrR K N G v d := by
  cases r with
  | non => exact .non
  | bl b => exact .bl b
  | int i => exact .int i
  | str x => exact .str x
  | _ => cases a
end
def PostFr (K : PySem.W.Frag) (ec : Nat → Addr) (W : WX) (σ : L2.St) (G H : Hp) (Q : VK) : R PyData → Prop
  | .ok d => ∀ v G' H', Ext G H G' H' → FrR K (fun b => H b = none) G' v d → Q v H'
  | .ex c => ∀ H', Same H H' → W (.ref (ec c)) none σ H'
  | .no => False
def tDF (K : PySem.W.Frag) (ec : Nat → Addr) (W : WX) (f : EF) : TE := fun σ H Q => ∃ G env, Same G H ∧ EnvR K G σ env ∧ PostFr K ec W σ G H Q (f env)
section
variable {K : PySem.W.Frag} {ec : Nat → Addr} {W : WX} {σ : L2.St} {G H G' H' : Hp} {Q Q' : VK}
theorem PostFr.mono {r : R PyData} (e : Ext G H G' H') (h : PostFr K ec W σ G H Q r) : PostFr K ec W σ G' H' Q r := by
  cases r with
  | ok d => exact fun v G2 H2 e2 p => h v G2 H2 (e.trans e2) (p.mono (Same.refl _) fun a n => e.h.free n)
  | ex c => exact fun H2 s2 => h H2 (e.h.trans s2)
  | no => exact h
theorem PostFr.bindI {Q' : It → Hp → Prop} {r : R (List PyData)} {k : List PyData → R PyData} (h : PostFr K ec W σ G H Q (r.bind k)) (hk : ∀ J ds G' H', r = .ok ds → Ext G H G' H' → WalkD K G' J ds → PostFr K ec W σ G' H' Q (k ds) → Q' J H') : PostI K ec W σ G H Q' r := by
  cases r with
  | ok d => exact fun v G' H' e p => hk v d G' H' rfl e p (PostFr.mono e h)
  | ex c => exact h
  | no => exact h
theorem PostFr.bindL {Q' : List V → Hp → Prop} {r : R (List PyData)} {k : List PyData → R PyData} (h : PostFr K ec W σ G H Q (r.bind k)) (hk : ∀ vs ds G' H', r = .ok ds → Ext G H G' H' → RepA K G' vs ds → PostFr K ec W σ G' H' Q (k ds) → Q' vs H') : PostL K ec W σ G H Q' r := by
  cases r with
  | ok d => exact fun v G' H' e p => hk v d G' H' rfl e p (PostFr.mono e h)
  | ex c => exact h
  | no => exact h
theorem Post.fr {r : R PyData} (h : Post K ec W σ G H Q r) : PostFr K ec W σ G H Q r := by
  cases r with
  | ok d => exact fun v G' H' e p => h v G' H' e p.rep
  | ex c => exact h
  | no => exact h
end
/-- an answer that is no object -/
def eAt (f : EF) (env : List (Option PyData)) : R PyData := (f env).bind fun d => if atomic d = true then .ok d else .no
/-- what a def promises whose lists are all new -/
def PostFF (K : PySem.W.Frag) (ec : Nat → Addr) (G H : Hp) (Q : VK) (E : XK) : R PyData → Prop
  | .ok d => ∀ v G' H', Ext G H G' H' → FrR K (fun b => H b = none) G' v d → Q v H'
  | .ex c => ∀ H', Same H H' → E (.ref (ec c)) none H'
  | .no => False
def spF (K : PySem.W.Frag) (ec : Nat → Addr) (n : Nat) (g : List PyData → R PyData) : Sp := fun vs H Q E => vs.length = n ∧ ∃ G ds, Tbs G ∧ Same G H ∧ RepA K G vs ds ∧ PostFF K ec G H Q E (g ds)
structure CalF (P : Program) (w : World) (K : PySem.W.Frag) (mg : Str → Option Value) (base : Heap) (ec : Nat → Addr) (x : Str) (n k : Nat) (g : List PyData → R PyData) : Prop where
  ex : ∃ (f : Addr) (fd : FuncData) (ps : List Str), FnOk P w K mg base (L2N.CX P w) k f fd ps (spF K ec n g) ∧ mg x = some (.ref f) ∧ PySem.W.keepIn K (.ref f) = true ∧ Binds K fd ps []
theorem spF_of {K : PySem.W.Frag} {ec : Nat → Addr} {n : Nat} {g : List PyData → R PyData} {vs : List V} {H : Hp} {Q : VK} {E : XK} (h : spP K ec n g vs H Q E) : spF K ec n g vs H Q E := by
  obtain ⟨h1, G, ds, t, s, r, p⟩ := h
  refine ⟨h1, G, ds, t, s, r, ?_⟩
  cases q : g ds with
  | ok d => rw [q] at p; exact fun v G' H' e f => p v G' H' e f.rep
  | ex c => rw [q] at p; exact p
  | no => rw [q] at p; exact p
theorem calF_of {P : Program} {w : World} {K : PySem.W.Frag} {mg : Str → Option Value} {base : Heap} {ec : Nat → Addr} {x qual : Str} {st : Stmt} {n k : Nat} {g : List PyData → R PyData} {f : Addr} {fd : FuncData} {ps : List Str}
    (F : Fun K x qual st f fd) (hm : mg x = some (.ref f)) (hb : Binds K fd ps []) (ok : FnOk P w K mg base (L2N.CX P w) k f fd ps (spF K ec n g)) : CalF P w K mg base ec x n k g := ⟨f, fd, ps, ok, hm, F.kp, hb⟩
theorem CalF.cal {P : Program} {w : World} {K : PySem.W.Frag} {mg : Str → Option Value} {base : Heap} {ec : Nat → Addr} {x : Str} {n k : Nat} {g : List PyData → R PyData} (C : CalF P w K mg base ec x n k g) : Cal P w K mg base ec x n k g := by
  obtain ⟨f, fd, ps, F, h⟩ := C.ex
  exact ⟨f, fd, ps, F.imp fun _ _ _ _ => spF_of, h⟩
section
variable {X : Cx} {ec : Nat → Addr} {W : WX} {e : Expr} {es : List Expr} {f : EF} {fs : List EF} {pos p : Pos} {x : Str} {n k : Nat} {g : List PyData → R PyData}
theorem sf_atom (h : PE X e (tD X.K ec W f)) : PE X e (tDF X.K ec W (eAt f)) := PE_imp h fun σ H Q ⟨G, env, s, E, q⟩ => by
  refine ⟨G, env, s, E, ?_⟩
  unfold eAt at q
  cases r : f env with
  | ok d =>
    rw [r, R.bind_ok] at q
    split at q
    · rename_i ha
      exact fun v G' H' e p => q v G' H' e (.atom p ha)
    · exact q.elim
  | ex c => rw [r] at q; exact q
  | no => rw [r] at q; exact q
theorem sf_call (C : CalF X.prog X.w X.K X.mg X.base ec x n k g) (tk : L2N.Takes X W) (hr : Room k X.A) (hg : Gl X x) (ha : PA X (e :: es) (tDA X.K ec W fs)) (hl : fs.length = n := by rfl) (hdb : (x == ("__debug__" : Str)) = false := by decide)
    (he : starEach (e :: es) X.env = (false, eval e X.env) :: starEach es X.env := by rfl) (hpl : (backTo pos (starEach es X.env)).any (·.1) = false := by rfl) : PE X (.Call (.Name x p) (e :: es) [] pos) (tDF X.K ec W (eCall g fs)) := by
  obtain ⟨f, fd, ps, F, hm, hk, hb⟩ := C.ex
  refine PE_imp (pe_callS (E := WE W) F hr hg hm hk hb (fun σ => L2N.passAt tk σ) ha hdb he hpl) fun σ H Q ⟨G, env, s, E, p⟩ => ?_
  refine ⟨G, env, s, E, PostFr.bindL p fun vs ds G1 H1 q e1 r1 p1 => ⟨by rw [r1.length, aAll_len q, hl], G1, ds, E.tb.mono e1.g, e1.i, r1, ?_⟩⟩
  cases q : g ds with
  | ok d => rw [q] at p1; exact p1
  | ex c => rw [q] at p1; exact p1
  | no => rw [q] at p1; exact p1
end
theorem tLc_F {K : PySem.W.Frag} {ec : Nat → Addr} {W : WX} {fi : LF} {g : TG} {tg : GE} {tt : TF} {te : EF} {vs : List Nat} (tk : TgOk K vs g tg) {σ : L2.St} {H : Hp} {Q : VK} :
    tDF K ec W (eLc tg fi tt te) σ H Q → tLc (tDI K ec W fi) g (tDT K ec WNo tt) (tDF K ec WNo te) vs σ H Q := by
  rintro ⟨G, env, s, E, p⟩
  refine ⟨G, env, s, E, PostFr.bindI p fun J ds G1 H1 q e1 w p1 D hD => ?_⟩
  cases ql : lcF tg tt te ds env with
  | ex c => rw [ql] at p1; exact p1.elim
  | no => rw [ql] at p1; exact p1.elim
  | ok ys =>
    rw [ql, R.sure_ok, R.bind_ok] at p1
    unfold lcE at p1
    split at p1
    · rename_i hsz
      have gD : G1 D = none := e1.i.free hD
      have wk : Walk J ds.length (fun H => Same G1 H) (fun i H x H' => ∀ Gc d, ds[i]? = some d → Same G1 Gc → Same Gc H → ∃ Gc', Ext Gc H Gc' H' ∧ Rep K Gc' x d) :=
        ⟨fun i H hi s => w.go i H hi s, fun H s => w.stop H s, fun i H x H' hi s y Gc d hd s1 s2 => w.yld i Gc H x H' d hd s1 s2 y⟩
      refine lc_it wk (fun i H => ∃ G2 acc us zs, Ext G1 H1 G2 H ∧ G2 D = none ∧ H D = some (.lst acc) ∧ FrA K (fun b => H1 b = none) G2 acc us ∧ lcF tg tt te (ds.drop i) env = .ok zs ∧ ys = us ++ zs)
        ⟨G1, [], [], ys, Ext.heap e1.i (same_new hD), gD, upd_same, .nil, ql, rfl⟩ ?_ ?_ ?_
      · rintro i H _ ⟨G2, acc, us, zs, e2, _⟩
        exact e2.g.trans e2.i
      · rintro i x H H' hi ⟨G2, acc, us, zs, e2, g2, hd2, r2, l2, hy⟩ y
        have hd : ds[i]? = some ds[i] := by simp [hi]
        obtain ⟨G3, e3, r3⟩ := y G2 ds[i] hd e2.g e2.i
        rw [List.drop_eq_getElem_cons hi] at l2
        cases qg : tg ds[i] env with
        | none => unfold lcF at l2; rw [qg] at l2; cases l2
        | some env3 =>
          have g3 : G3 D = none := e3.clean g2 hd2
          refine tk G3 H' σ env env3 x ds[i] _ e3.i (E.mono (e1.g.trans (e2.g.trans e3.g))) r3 qg fun σ2 hw E2 => ⟨hw, ?_⟩
          rcases lcF_len l2 qg with ⟨t0, l3⟩ | ⟨t0, y0, zs0, ty, l3, ez⟩
          · refine ⟨G3, env3, e3.i, E2, ?_⟩
            rw [t0]
            intro H4 s4
            refine iteF ⟨G3, acc, us, zs, (e2.trans e3).trans (Ext.heap e3.i s4), g3, s4.lst (e3.h.lst hd2), r2.mono e3.g fun _ n => n, l3, hy⟩
          · refine ⟨G3, env3, e3.i, E2, ?_⟩
            rw [t0]
            intro H4 s4
            refine iteT ⟨G3, env3, e3.i.trans s4, E2, ?_⟩
            rw [ty]
            intro v G5 H5 e5 r5
            have hd5 : H5 D = some (.lst acc) := e5.h.lst (s4.lst (e3.h.lst hd2))
            have g5 : G5 D = none := e5.clean g3 (s4.lst (e3.h.lst hd2))
            have hacc : acc.length < szl := by
              rw [r2.rep.length]
              have := congrArg List.length hy
              rw [List.length_append, ez, List.length_cons] at this
              omega
            have e4 : Same H1 H4 := ((e2.trans e3).h).trans s4
            have e6 : Ext G1 H1 G5 H5 := (e2.trans e3).trans ((Ext.heap e3.i s4).trans e5)
            refine ⟨acc, hd5, Nat.lt_of_lt_of_le hacc (szl_line (Nat.le_refl _)), G5, acc ++ [v], us ++ [y0], zs0, ⟨e6.g, same_put e6.h hD hd5 (tame_lst _), same_put e6.i g5 hd5 (tame_lst _), e6.f⟩, g5, upd_same, (r2.mono (e3.g.trans e5.g) fun _ n => n).append (.cons (r5.mono (Same.refl _) fun a n => e4.free n) .nil), l3, by rw [hy, ez, List.append_assoc]; rfl⟩
      · rintro H ⟨G2, acc, us, zs, e2, g2, hd2, r2, l2, hy⟩
        rw [List.drop_length] at l2
        cases l2
        rw [List.append_nil] at hy
        subst hy
        have sg : Same G2 (upd G2 D (.lst acc)) := same_new g2
        have ee : Ext G1 H1 (upd G2 D (.lst acc)) H := by
          refine ⟨e2.g.trans sg, e2.h, same_in e2.i hd2 (tame_lst _), fun b h1 h2 => ?_⟩
          · by_cases hb : b = D
            · subst hb; exact hD
            · rw [upd_ne hb] at h1; exact e2.f b h1 h2
        exact p1 (.ref D) _ H ee (.lst upd_same hD (r2.mono sg fun _ n => n))
    · exact p1.elim
section
variable {X : Cx} {ec : Nat → Addr} {W : WX} {elt tg iter : Expr} {ifs : List Expr} {scope : Scope} {own : List (Str × Nat)} {pos : Pos} {g : TG} {gd : GE} {fi : LF} {tt : TF} {te : EF} {vs : List Nat}
theorem sf_lc (tk : TgOk X.K vs g gd) (hv : own.map (·.2) = vs) (hc : X.calm = true) (hN : X.N.Nodup) (hi : PI X tg iter (tDI X.K ec W fi)) (ok : BlkOk X.N X.env.scope scope own)
    (hg : ∀ (s : Shared) (H : Hp) (C : Addr) (cl : List (Str × Addr)) (fp : List Addr), PG (X.blk s H scope (compEnvC scope cl C X.env) fp) tg g) (ht : ∀ (s : Shared) (H : Hp) (C : Addr) (cl : List (Str × Addr)) (fp : List Addr), PTs (X.blk s H scope (compEnvC scope cl C X.env) fp) ifs (tDT X.K ec WNo tt))
    (he : ∀ (s : Shared) (H : Hp) (C : Addr) (cl : List (Str × Addr)) (fp : List Addr), PE (X.blk s H scope (compEnvC scope cl C X.env) fp) elt (tDF X.K ec WNo te)) (hs : ∀ x, foldedSetIterable iter X.env x = pure x := by intro _; rfl) :
    PE X (.ListComp elt [⟨tg, iter, ifs, 0⟩] scope pos) (tDF X.K ec W (eLc gd fi tt te)) :=
  PE_imp (pe_lc hc hN hi ok hg ht he hs) fun σ H Q h => by rw [hv]; exact tLc_F tk h
end

/-! ### statements of a def whose answer is new -/
def PostSF (K : PySem.W.Frag) (ec : Nat → Addr) (W : WX) (G0 H0 G : Hp) (D : Ends) : Out → Prop
  | .nx e => ∀ σ' G' H', Same G G' → StR K G0 H0 G' H' σ' e → D.nx σ' H'
  | .rt d => ∀ v G' H', Ext G0 H0 G' H' → FrR K (fun b => H0 b = none) G' v d → D.rt v H'
  | .ex c => ∀ σ' H', Same H0 H' → W (.ref (ec c)) none σ' H'
  | _ => False
def tDSF (K : PySem.W.Frag) (ec : Nat → Addr) (W : WX) (G0 H0 : Hp) (f : SF) : TS := fun D σ H => ∃ G env, StR K G0 H0 G H σ env ∧ PostSF K ec W G0 H0 G D (f env)
theorem PostSF.mono {K : PySem.W.Frag} {ec : Nat → Addr} {W : WX} {G0 H0 G G' : Hp} {D : Ends} {o : Out} (g : Same G G') (h : PostSF K ec W G0 H0 G D o) : PostSF K ec W G0 H0 G' D o := by
  cases o with
  | nx e => exact fun σ' G2 H' e2 => h σ' G2 H' (g.trans e2)
  | rt d => exact h
  | ex c => exact h
  | _ => exact h
/-- ahead of it nothing is told -/
def sSeqF (f g : SF) (env : Ev) : Out := match f env with
  | .nx e => g e
  | .ex c => .ex c
  | _ => .no
def sRetP (f : EF) (env : Ev) : Out := (f (env.map Sl.pur)).out fun d => .rt d
section
variable {X : Cx} {ec : Nat → Addr} {W : WX} {G0 H0 : Hp} {st : Stmt} {rest body els : List Stmt} {f g : SF} {e c : Expr} {fe : EF} {ft : TF} {pos : Pos}
theorem sx_consF (h1 : PS X st (tDS X.K ec W G0 H0 f)) (h2 : PSs X rest (tDSF X.K ec W G0 H0 g)) : PSs X (st :: rest) (tDSF X.K ec W G0 H0 (sSeqF f g)) := by
  refine PSs_imp (pss_cons h1 h2) fun D σ H ⟨G, env, S, p⟩ => ⟨G, env, S, ?_⟩
  unfold sSeqF at p
  cases q : f env with
  | nx e => rw [q] at p; exact fun σ' G' H' s' S' => ⟨G', e, S', PostSF.mono s' p⟩
  | ex c => rw [q] at p; exact p
  | _ => rw [q] at p; exact p.elim
theorem sx_cons (h1 : PS X st (tDSF X.K ec W G0 H0 f)) (h2 : PSs X rest (tDSF X.K ec W G0 H0 g)) : PSs X (st :: rest) (tDSF X.K ec W G0 H0 (sSeq f g)) := by
  refine PSs_imp (pss_cons h1 h2) fun D σ H ⟨G, env, S, p⟩ => ⟨G, env, S, ?_⟩
  unfold sSeq at p
  cases q : f env with
  | nx e => rw [q] at p; exact fun σ' G' H' s' S' => ⟨G', e, S', PostSF.mono s' p⟩
  | ex c => rw [q] at p; exact p
  | rt d => rw [q] at p; exact p
  | _ => rw [q] at p; exact p.elim
theorem sx_one (h1 : PS X st (tDSF X.K ec W G0 H0 f)) : PSs X [st] (tDSF X.K ec W G0 H0 f) := pss_one h1
theorem sx_nil : PSs X [] (tDSF X.K ec W G0 H0 sNil) := PSs_imp pss_nil fun D σ H ⟨G, env, S, p⟩ => p σ G H (Same.refl _) S
theorem sx_frz (i : Nat) (h : PSs X rest (tDSF X.K ec W G0 H0 f)) : PSs X rest (tDSF X.K ec W G0 H0 (sFrz i f)) :=
  PSs_imp h fun D σ H ⟨G, env, S, p⟩ => by
    obtain ⟨G', s, S'⟩ := S.frz i
    exact ⟨G', _, S', PostSF.mono s p⟩
theorem sx_ret (he : PE X e (tDF X.K ec W fe)) : PS X (.Return (some e) pos) (tDSF X.K ec W G0 H0 (sRetP fe)) :=
  PS_imp (ps_ret he) fun D σ H ⟨G, env, S, p⟩ => by
    refine ⟨G, env.map Sl.pur, S.x.i, S.envP, ?_⟩
    unfold sRetP at p
    cases q : fe (env.map Sl.pur) with
    | ok d => rw [q] at p; exact fun v G' H' e r => p v G' H' (S.x.trans e) (r.mono (Same.refl _) fun a n => S.x.h.free n)
    | ex c => rw [q] at p; exact fun H' s => p σ H' (S.x.h.trans s)
    | no => rw [q] at p; exact p
theorem sx_if (hc : PT X c (tDT X.K ec W ft)) (ha : PSs X body (tDSF X.K ec W G0 H0 f)) (hb : PSs X els (tDSF X.K ec W G0 H0 g)) : PS X (.If c body els pos) (tDSF X.K ec W G0 H0 (sIf ft f g)) :=
  PS_imp (ps_if hc ha hb) fun D σ H ⟨G, env, S, p⟩ => by
    refine ⟨viewF G H σ env, env.map Sl.full, S.viewH, S.envF, ?_⟩
    unfold sIf at p
    cases q : ft (env.map Sl.full) with
    | ok k =>
      rw [q] at p
      intro H' s
      have S' := S.grow (Ext.heap S.x.i s)
      cases k with
      | true => exact iteT ⟨G, env, S', p⟩
      | false => exact iteF ⟨G, env, S', p⟩
    | ex c => rw [q] at p; exact fun H' s => p σ H' (S.x.h.trans s)
    | no => rw [q] at p; exact p
end
section
variable {X : Cx} {ec : Nat → Addr} {W : WX} {G0 H0 : Hp} {wd : Nat → Option Str} {k i : Nat} {x xe n : Str} {cT : Addr} {body : List Stmt} {fb : SF} {np q1 q2 q3 q4 pos pos' : Pos}
theorem sx_try (i0 : Same G0 H0) (C : CalW X.prog X.w X.K X.mg X.base ec x k wd) (hr : Room k X.A) (tk : L2N.Takes X W) (hs : X.stack = X.env :: X.outer) (hf : X.env.frame = some X.env.locals) (hN : X.N.Nodup) (hi : X.N[i]? = some n) (hln : X.env.kindOf n = some .local) (hgx : Gl X x) (hge : Gl X xe) (hme : X.mg xe = some (.ref cT))
    (hex : ∀ c z, wd c = some z → PySem.W.exmOne X.K (.ref (ec c)) (.ref cT) = some true)
    (hb : ∀ (W' : WX) (pn : List (Addr × Obj)) (xx : Value → Shared → Prop), L2N.Takes (X.tr pn xx) W' → PassesOwn (model X.prog X.w) X.A X.env xx → PSs (X.tr pn xx) body (tDSF X.K ec W' G0 H0 fb))
    (hv : Vis X.env.scope n) (hd : (n == ("__debug__" : Str)) = false := by decide) (hcd : (n == ("__classdict__" : Str)) = false := by decide) (hdx : (x == ("__debug__" : Str)) = false := by decide) (hde : (xe == ("__debug__" : Str)) = false := by decide)
    (hst : starEach [.Name n q2] X.env = (false, eval (.Name n q2) X.env) :: starEach [] X.env := by rfl) :
    PS X (.Try body [.ExceptHandler (some (.Name xe np)) (some n) [.Return (some (.Call (.Name x q1) [.Name n q2] [] q3)) q4] pos'] [] [] pos) (tDSF X.K ec W G0 H0 (sTry wd fb)) := by
  have hsu : ∀ (a : Addr) (oe : Obj) (cls : Value) (d : Option Addr) (pn : List (Addr × Obj)), L2N.Zn cls d oe → (∃ vs, oe.data = .fields vs) → PSs (X.suite a ((a, oe) :: pn)) [.Return (some (.Call (.Name x q1) [.Name n q2] [] q3)) q4]
      (fun D σ H => (∃ σ0 : L2.St, σ = σ0.set i (some (.ref a))) ∧ ∃ c z, cls = .ref (ec c) ∧ d = none ∧ wd c = some z ∧ ∀ H', Same H H' → D.rt (.str z) H') := by
    intro a oe cls d pn hz hff
    refine ⟨fun pins s σ H D I h => ?_⟩
    obtain ⟨⟨σ0, e0⟩, c, z, rfl, rfl, hwd, q⟩ := h
    obtain ⟨vs, hvs⟩ := hff
    have hot : Hot1 (X.suite a ((a, oe) :: pn)).A (a, oe) := ⟨rfl, vs, hvs, hz.2.2 vs hvs⟩
    have rh : RoomH k (X.suite a ((a, oe) :: pn)).A := ⟨hr.dp, hr.un⟩
    refine (pss_one (ps_ret (pe_callW (X := X.suite a ((a, oe) :: pn)) (p := (a, oe)) C rh List.mem_cons_self hot hz hwd hgx (pe_var (X := X.suite a ((a, oe) :: pn)) hi hv hd hcd) hdx hst))).run pins s σ H D I ⟨?_, q⟩
    subst e0
    refine List.getElem?_set_self ?_
    have := I.len
    rw [List.length_set] at this
    rw [this]
    exact (List.getElem?_eq_some_iff.mp hi).1
  refine PS_imp (L2N.ps_try_as (np := np) (pos := pos) (pos' := pos') hs hf hN hi hln ⟨hge, hde, .inl hme⟩ tk (tb := fun W' => tDSF X.K ec W' G0 H0 fb) hb hsu) fun D σ H ⟨G, env, S, p⟩ => ⟨G, env, S, ?_⟩
  unfold sTry at p
  cases q : fb env with
  | ex c =>
    rw [q] at p
    dsimp only at p
    cases qw : wd c with
    | none => rw [qw] at p; exact p.elim
    | some z =>
      rw [qw] at p
      intro σ' H' hH
      refine ⟨true, hex c z qw, fun _ a na => ⟨⟨σ', rfl⟩, c, z, rfl, rfl, qw, fun H2 s2 => ?_⟩, fun z => nomatch z⟩
      exact p _ G0 H2 (Ext.heap i0 (hH.trans s2)) (.str z)
  | nx e => rw [q] at p; exact p
  | rt d => rw [q] at p; exact p
  | _ => rw [q] at p; exact p.elim
end
section
variable {P : Program} {w : World} {K : PySem.W.Frag} {mg : Str → Option Value} {base : Heap}
theorem fn_fresh {ec : Nat → Addr} {x qual : Str} {st : Stmt} {f : Addr} {fd : FuncData} {N ps : List Str} {k n : Nat} {fb : SF} (F : Fun K x qual st f fd) (S : FnScope N ps (defScope st)) (hn : ps.length = n)
    (hbody : ∀ (cdv : Value) (A : Around) (outer : List Env) (s : Shared) (G0 H : Hp) (E : XK), Same G0 H → Room k (A.deeper (envOfC qual (defScope st) s.heap.objs.size f cdv)) →
      PSs (cxOf (L2N.CX P w) P w K mg base N qual (defScope st) f cdv A outer s H E) (defBody st) (tDSF K ec (fun cls d _ H => E cls d H) G0 H fb)) :
    FnOk P w K mg base (L2N.CX P w) (k + 1) f fd ps (spF K ec n (runB N.length fb)) := by
  obtain ⟨oc, od, kV, doc, pm, an, cdv, ct, osl, rfl, lk, hcd⟩ := F.ex
  refine fn_of lk hcd S (fun vs H Q E h => by rw [h.1, hn]) fun A outer s H vs Q E hr h => ?_
  obtain ⟨hl, G, ds, t, i, r, p⟩ := h
  refine ⟨_, hbody cdv A outer s G H E i hr, G, _, start_ok t i r, ?_⟩
  unfold runB at p
  cases q : fb (entry N.length ds) with
  | nx e => rw [q] at p; exact fun σ' G' H' g S' => p _ G' H' S'.x .non
  | rt d => rw [q] at p; exact p
  | ex c => rw [q] at p; exact fun _ H' s => p H' s
  | _ => rw [q] at p; exact p.elim
end

/-! ### x = f(..); if ..: return False; x[0].append(n): what was told is new, and is never read again -/
noncomputable def sMut0 (i : Nat) (fe : EF) (ft : TF) (fr : SF) (env : Ev) : Out := (fe (env.map Sl.pur)).out fun d => (ft ((env.set i (.pu d)).map Sl.full)).outB fun b => if b = true then .rt (.bool false) else match d with
  | .list (.list ds :: _) => if ds.length < szl ∧ i < env.length then fr (env.set i .no) else .no
  | _ => .no
theorem StR.lost {K : PySem.W.Frag} {G0 H0 G H H' : Hp} {σ : L2.St} {env : Ev} (S : StR K G0 H0 G H σ env) (i : Nat) (v : V) (hs : Same H H') : StR K G0 H0 G H' (σ.set i (some v)) (env.set i .no) := by
  have nx : ∀ {j : Nat} {s : Sl}, (env.set i .no)[j]? = some s → s ≠ .no → j ≠ i ∧ env[j]? = some s := fun {j s} h hn => by
    rcases get_set h with ⟨_, h2⟩ | h
    · exact absurd h2 hn
    · exact h
  have sg : ∀ {j : Nat}, j ≠ i → (σ.set i (some v))[j]? = σ[j]? := fun {j} h => by rw [List.getElem?_set_ne (fun z => h z.symm)]
  refine ⟨S.tb, ⟨S.x.g, S.x.h.trans hs, S.x.i.trans hs, S.x.f⟩, by rw [List.length_set, List.length_set]; exact S.len, fun j d h => ?_, fun j d h => ?_, fun j k d d' l hjk h1 h2 h3 h4 => ?_⟩
  · obtain ⟨hj, h⟩ := nx h (by simp)
    rw [sg hj]
    exact S.pu j d h
  · obtain ⟨hj, h⟩ := nx h (by simp)
    rw [sg hj]
    obtain ⟨l, a1, a2, a3, a4⟩ := S.ow j d h
    exact ⟨l, a1, a2, a3, a4.mono (Same.refl _) fun o e k => hs.ap l o e k.1⟩
  · obtain ⟨hj, h1⟩ := nx h1 (by simp)
    obtain ⟨hk, h2⟩ := nx h2 (by simp)
    rw [sg hj] at h3
    rw [sg hk] at h4
    exact S.dj j k d d' l hjk h1 h2 h3 h4
section
variable {X : Cx} {ec : Nat → Addr} {W : WX} {G0 H0 : Hp} {rest : List Stmt} {fr : SF} {e c : Expr} {fe : EF} {ft : TF} {i : Nat} {x : Str} {n : Int} {j1 j2 j3 : Nat} {pos p1 p2 p3 p4 p5 p6 p7 p8 p9 apos cpos : Pos}
theorem ss_mut0 (hN : X.N.Nodup) (he : PE X e (tDF X.K ec W fe)) (ht : PT X c (tDT X.K ec W ft)) (hr : PSs X rest (tDS X.K ec W G0 H0 fr)) (hi : X.N[i]? = some x := by rfl) (hx : Loc X.env.scope x := by first | exact Or.inl rfl | exact Or.inr rfl) (hsw : swapsWith e (some (.Name x p1)) pos.line X.env = pure false := by rfl)
    (hf : X.fn x = true ∨ X.env.scope.names.lookup x = some .local := by first | exact .inl rfl | exact .inr rfl | assumption) (hv : Vis X.env.scope x := by first | exact Or.inl rfl | exact Or.inr (Or.inl rfl) | exact Or.inr (Or.inr rfl)) (hd : (x == ("__debug__" : Str)) = false := by decide) (hcd : (x == ("__classdict__" : Str)) = false := by decide)
    (hfew : ((backTo cpos (starEach [.Constant (.int n) j3 p8] X.env)).all (fun x => !x.1) && (backToKw cpos (keywordEach [] X.env)).all (fun x => x.1.isSome)
      && decide (([.Constant (.int n) j3 p8] : List Expr).length + ([] : List Keyword).length + (if ([] : List Keyword).isEmpty then 0 else 1) < 30)) = true := by rfl)
    (hline : (apos.endLine == cpos.line) = true := by rfl) (hst : starEach [.Constant (.int n) j3 p8] X.env = (false, eval (.Constant (.int n) j3 p8) X.env) :: starEach [] X.env := by rfl)
    (hb : attributeBase (.Subscript (.Name x p5) (.Constant (.int 0) j2 p6) p7) "append" X.env (eval (.Subscript (.Name x p5) (.Constant (.int 0) j2 p6) p7) X.env) = eval (.Subscript (.Name x p5) (.Constant (.int 0) j2 p6) p7) X.env := by rfl) :
    PSs X (.Assign [.Name x p1] e pos :: .If c [.Return (some (.Constant (.bool false) j1 p2)) p3] [] p4 :: .Expr (.Call (.Attribute (.Subscript (.Name x p5) (.Constant (.int 0) j2 p6) p7) "append" apos) [.Constant (.int n) j3 p8] [] cpos) p9 :: rest) (tDS X.K ec W G0 H0 (sMut0 i fe ft fr)) := by
  refine PSs_imp (pss_cons (ps_set (i := i) hN hi hx he hsw hf) (pss_cons (ps_if ht (pss_one (ps_ret pe_bl)) pss_nil) (pss_cons (ps_expr (pe_bm PySem.F.plainAttrs_list PySem.F.slot_list_append PySem.F.type_list_append mt_append (pe_ix ix_seq (pe_var hi hv hd hcd) pe_int (fun _ _ => rfl)) (pa_cons pe_int pa_nil hst) hb hfew hline hst rfl)) hr))) fun D σ H ⟨G, env, S, p⟩ => ?_
  refine ⟨G, env.map Sl.pur, S.x.i, S.envP, ?_⟩
  unfold sMut0 at p
  cases q : fe (env.map Sl.pur) with
  | ex c => rw [q] at p; exact fun H' s => p σ H' (S.x.h.trans s)
  | no => rw [q] at p; exact p
  | ok d =>
    rw [q] at p
    intro v G' H' e1 r1
    have S1 : StR X.K G0 H0 G' H' (σ.set i (some v)) (env.set i (.pu d)) := (S.grow e1).setP r1.rep
    refine ⟨viewF G' H' (σ.set i (some v)) (env.set i (.pu d)), (env.set i (.pu d)).map Sl.full, S1.viewH, S1.envF, ?_⟩
    simp only [R.out] at p
    cases qt : ft ((env.set i (.pu d)).map Sl.full) with
    | ex c => rw [qt] at p; exact fun H2 s => p _ H2 (S1.x.h.trans s)
    | no => rw [qt] at p; exact p
    | ok b =>
      rw [qt] at p
      simp only [R.outB] at p
      intro H2 s2
      cases b with
      | true =>
        rw [if_pos rfl] at p
        exact iteT (p _ G' H2 (S1.grow (Ext.heap S1.x.i s2)).x (.bl false))
      | false =>
        rw [if_neg (by simp)] at p
        refine iteF ?_
        split at p
        · rename_i ds dr
          split at p
          · rename_i hz
            cases r1 with
            | lst ga na ra =>
              rename_i a xs
              cases ra with
              | cons r0 rr =>
                cases r0 with
                | lst gb nb rb =>
                  rename_i vs b ws
                  have ha2 : H2 a = some (.lst (.ref b :: vs)) := s2.lst (e1.i.lst ga)
                  have hb2 : H2 b = some (.lst ws) := s2.lst (e1.i.lst gb)
                  have hsi : (σ.set i (some (.ref a)))[i]? = some (some (.ref a)) := by
                    rw [List.getElem?_set_self]
                    rw [S.len]
                    exact hz.2
                  have hwl : ws.length < sizeLine := by
                    rw [rb.rep.length]
                    exact Nat.lt_of_lt_of_le hz.1 (szl_line (Nat.le_refl _))
                  refine ⟨_, hsi, .inl ⟨a, .ref b :: vs, 0, .ref b, rfl, rfl, SqL.of ha2, (by have := atI_of (xs := V.ref b :: vs) (i := 0) (by simp); simpa using this), .inl ⟨rfl, ws, SqL.of hb2⟩, ?_⟩⟩
                  refine ⟨b, ws, _, rfl, rfl, hb2, hwl, ?_⟩
                  have lost := S.lost (H' := upd H2 b (.lst (ws ++ [.int n]))) i (.ref a) (same_put (e1.h.trans s2) nb hb2 (tame_lst _))
                  exact ⟨G, _, lost, p⟩
          · exact p.elim
        · exact p.elim
end
end PL
/-! PL, part w: sorted of a list of alike data. -/
namespace PL
open PySem PySem.Spec PyProof.Rows L2
theorem each_vals : ∀ {xs : List V} {its : List Value}, Vals xs its → ∀ {ds : List PyData}, xs.length = ds.length → PySem.W.EachIs (fun (u : Value) (b : V × PyData) => RelV b.1 u) its (xs.zip ds)
  | [], _, .nil, [], _ => .nil
  | x :: xs, _, .cons r t, d :: ds, h => .cons r (each_vals t (by simpa using h))
theorem vals_each : ∀ {its : List Value} {bs : List (V × PyData)}, PySem.W.EachIs (fun (u : Value) (b : V × PyData) => RelV b.1 u) its bs → Vals (bs.map (·.1)) its
  | _, _, .nil => .nil
  | _, _, .cons r t => .cons r (vals_each t)

/-- data that sorted takes: alike, and all nonempty tuples or no tuples at all -/
def okSort (ds : List PyData) : Bool := (ds.all fun d => ds.all fun e => PySem.W.alike d e) && ((ds.all fun d => match d with | .tuple (_ :: _) => true | _ => false) || (ds.all fun d => match d with | .tuple _ => false | .none => false | _ => true)) && (ds.all fun d => SeqAt.shaped d)
theorem okSort_alike {ds : List PyData} (h : okSort ds = true) : PySem.W.AllAlike ds := by
  unfold okSort at h
  simp only [Bool.and_eq_true, List.all_eq_true] at h
  exact h.1.1
theorem okSort_sortable {ds : List PyData} (h : okSort ds = true) : PySem.W.Sortable ds := by
  unfold okSort at h
  simp only [Bool.and_eq_true, Bool.or_eq_true, List.all_eq_true] at h
  rcases h.1.2 with h | h
  · refine .inl fun d hd => ?_
    have := h d hd
    split at this
    · exact ⟨_, _, rfl⟩
    · cases this
  · refine .inr fun d hd => ?_
    have := h d hd
    constructor
    · rintro rfl
      cases this
    · rintro xs rfl
      cases this
theorem okSort_shaped {ds : List PyData} (h : okSort ds = true) : ∀ d, d ∈ ds → SeqAt.shaped d = true := by
  unfold okSort at h
  simp only [Bool.and_eq_true, List.all_eq_true] at h
  exact h.2
abbrev srtB (xs : List V) (ds : List PyData) : List (V × PyData) := (xs.zip ds).mergeSort (PySem.W.dataLe false (·.2))
def rSortedD (K : PySem.W.Frag) : List V → Hp → VK → Prop := fun vs H Q => ∃ (a : Addr) (xs : List V) (ds : List PyData), vs = [V.ref a] ∧ SqL K H a xs ∧ DpAll K H xs ds ∧ okSort ds = true ∧ ds.length ≤ sizeLine ∧
  ∀ p : Addr, H p = none → Q (.ref p) (upd H p (.lst ((srtB xs ds).map (·.1))))

section
variable {X : Cx}
theorem dp_len {K : PySem.W.Frag} {H : Hp} : ∀ {xs : List V} {ds : List PyData}, DpAll K H xs ds → xs.length = ds.length
  | _, _, .nil => rfl
  | _, _, .cons _ t => by simp [dp_len t]
theorem each_reads {X : Cx} {pins : List (Addr × Obj)} {σ : L2.St} {H : Hp} {s : Shared} (I : L2.Inv X pins σ H s) : ∀ {xs : List V} {ds : List PyData} {its : List Value}, DpAll X.K H xs ds → Vals xs its → PySem.W.EachIs (fun (u : Value) (b : V × PyData) => ∃ as, Reads s.heap u b.2 as) its (xs.zip ds)
  | _, _, _, .nil, .nil => .nil
  | _, _, _, .cons d t, .cons r u => .cons (Dp.reads I _ _ _ d r) (each_reads I t u)
theorem zip_snd : ∀ {xs : List V} {ds : List PyData}, xs.length = ds.length → (xs.zip ds).map (·.2) = ds
  | [], [], _ => rfl
  | x :: xs, d :: ds, h => by simp [zip_snd (xs := xs) (ds := ds) (by simpa using h)]
theorem cr_sortedD (hu : X.A.units + 70 < cLine) : CallR X (.builtin "sorted") (rSortedD X.K) := by
  intro pins s σ H vs us Q I r h
  obtain ⟨a, xs, ds, rfl, hs, hd, ho, hz, q⟩ := h
  obtain ⟨its, rv, hl, _⟩ := I.list hs
  rw [Vals.ref1 r]
  have hlen := dp_len hd
  have hb : (xs.zip ds).length = ds.length := by rw [List.length_zip, hlen, Nat.min_self]
  refine PySem.W.sorted_data (vs := its) (enc := (·.2)) (R := fun (u : Value) (b : V × PyData) => RelV b.1 u) (bs := xs.zip ds) hl.isList (each_vals rv hlen) (each_reads I hd rv) (by rw [zip_snd hlen]; exact okSort_alike ho) (by rw [zip_snd hlen]; exact okSort_sortable ho) (by rw [hb]; exact hz) ?_ fun out ol oe => ?_
  · intro b hbm
    have hm : b.2 ∈ ds := by rw [← zip_snd hlen]; exact List.mem_map_of_mem hbm
    have s1 := okSort_shaped ho _ hm
    have hd : b.2.depth ≤ 64 := by
      unfold SeqAt.shaped at s1
      rw [Bool.and_eq_true, decide_eq_true_eq] at s1
      exact s1.2
    omega
  · obtain ⟨ep, he'⟩ := PyProof.Rows.sortedAll_at s.heap its out.toArray
    have hle : ((srtB xs ds).map (·.1)).length ≤ sizeLine := by rw [List.length_map, List.length_mergeSort, hb]; exact hz
    exact ⟨.ref _, upd H (s.heap.objs.size + 1) (.lst ((srtB xs ds).map (·.1))), I.laid (t' := s.toks) (fun _ _ => PyProof.Rows.sortedAll_old) (Nat.le_succ _) ⟨hle, out, ep, vals_each oe, he'⟩, rfl, q _ (I.hok.fresh (Nat.le_succ _))⟩
end

/-! ### sorted(xs) as an expression -/
def dSort (ds : List PyData) : List PyData := ds.mergeSort (PySem.W.dataLe false id)
theorem srtB_snd {xs : List V} {ds : List PyData} (h : xs.length = ds.length) : (srtB xs ds).map (·.2) = dSort ds := by
  have e := List.map_mergeSort (l := xs.zip ds) (f := (·.2)) (r := PySem.W.dataLe false (·.2)) (s := PySem.W.dataLe false (id : PyData → PyData)) (fun _ _ _ _ => rfl)
  rw [zip_snd h] at e
  exact e
theorem repA_zip {K : PySem.W.Frag} {G : Hp} : ∀ {xs : List V} {ds : List PyData}, RepA K G xs ds → ∀ b ∈ xs.zip ds, Rep K G b.1 b.2
  | _, _, .nil, b, h => by cases h
  | _, _, .cons r t, b, h => by
    rcases List.mem_cons.mp h with rfl | h
    · exact r
    · exact repA_zip t b h
theorem repA_of {K : PySem.W.Frag} {G : Hp} : ∀ {bs : List (V × PyData)}, (∀ b ∈ bs, Rep K G b.1 b.2) → RepA K G (bs.map (·.1)) (bs.map (·.2))
  | [], _ => .nil
  | b :: bs, h => .cons (h b List.mem_cons_self) (repA_of fun c hc => h c (List.mem_cons_of_mem _ hc))
theorem repA_len {K : PySem.W.Frag} {G : Hp} : ∀ {xs : List V} {ds : List PyData}, RepA K G xs ds → xs.length = ds.length
  | _, _, .nil => rfl
  | _, _, .cons _ t => by simp [repA_len t]
theorem repA_sort {K : PySem.W.Frag} {G : Hp} {xs : List V} {ds : List PyData} (r : RepA K G xs ds) : RepA K G ((srtB xs ds).map (·.1)) (dSort ds) := by
  rw [← srtB_snd (repA_len r)]
  exact repA_of fun b hb => repA_zip r b ((List.mergeSort_perm _ _).mem_iff.mp hb)

noncomputable def gSortD : List PyData → R PyData
  | [.list es] => if okSort es = true ∧ es.length ≤ szl then .ok (.list (dSort es)) else .no
  | _ => .no
theorem xl_sortD : NoExL gSortD := by
  intro x c h
  unfold gSortD at h
  split at h
  · split at h <;> cases h
  · cases h
theorem shaped_all {ds : List PyData} (h : ∀ d, d ∈ ds → SeqAt.shaped d = true) : PyData.canLayAll0 ds = true := by
  induction ds with
  | nil => rfl
  | cons d ds ih =>
    show (d.canLay0 && PyData.canLayAll0 ds) = true
    rw [Bool.and_eq_true]
    exact ⟨SeqAt.canLay_of_shaped (h d List.mem_cons_self), ih fun e he => h e (List.mem_cons_of_mem _ he)⟩
theorem cd_sortD {K : PySem.W.Frag} : CallD K (rSortedD K) gSortD := by
  intro vs ds d G H Q i r h q
  unfold gSortD at h
  split at h
  · split at h
    · rename_i es hs
      cases h
      cases r with
      | cons a b =>
        cases b
        cases a with
        | @lst l xs _ hl r =>
          refine ⟨l, xs, es, rfl, (ls_same i hl).sq, (RepA.mono i r).dp (shaped_all (okSort_shaped hs.1)), hs.1, szl_line hs.2, fun p n => q _ _ _ (Ext.new i n) (ext_list i n (repA_sort r))⟩
    · cases h
  · cases h
section
variable {X : Cx} {ec : Nat → Addr} {W : WX} {e e2 : Expr} {fs : List EF} {f : EF} {p q pos : Pos}
theorem se_sortD (hu : X.A.units + 70 < cLine) (hg : Gl X "sorted") (hm : X.mg "sorted" = none) (ha : PA X [e] (tDA X.K ec W fs)) (he : starEach [e] X.env = (false, eval e X.env) :: starEach [] X.env := by rfl) : PE X (.Call (.Name "sorted" p) [e] [] pos) (tD X.K ec W (eCall gSortD fs)) := se_callB (cr_sortedD hu) cd_sortD xl_sortD hg hm (by decide +kernel) ha (he := he) (hpl := rfl)
end
end PL
/-! PL, part n: sorted(xs, key=lambda at: (0 - heights[at], at)), heights a captured list of whole numbers. -/
namespace PL
open PySem PySem.Spec PyProof.Rows L2

abbrev lamSc : Scope := { kind := .function, names := [(Str.ofString "at", .local), (Str.ofString "heights", .free)], isGenerator := false, isCoroutine := false, more := [] }
abbrev lamPar (pa : Pos) : Arguments := { posonlyargs := [], args := [{ arg := "at", annotation := none, pos := pa }], vararg := none, kwonlyargs := [], kw_defaults := [], kwarg := none, defaults := [] }
abbrev lamBody (j0 kk : Nat) (p1 p2 p3 p4 p5 p6 p7 : Pos) : Expr := .Tuple [.BinOp (.Constant (.int 0) j0 p1) .Sub (.Subscript (.Name "heights" p2) (.Name "at" p3) p4) p5, .Name "at" p6] kk p7
/-- the key of a place -/
def keyI (js : List Int) (i : Int) : PyData := .tuple [.int (0 - js.getD i.toNat 0), .int i]

section
variable {prog : Program} {w : World} {A : Around} {s : Shared} {f c' cc L : Addr} {qual : Str} {cl : List (Str × Addr)} {pm ctv : Value} {its : List Value} {js : List Int} {j0 kk : Nat} {pa p1 p2 p3 p4 p5 p6 p7 : Pos} {i : Int} {t : Tok}
theorem key_call (hroom : A.depth < recursionLimit) (lim : s.heap.NoLimit) (ho : s.heap.get? f = some (PySem.W.kla_obj "<lambda>" qual (lamPar pa) (lamBody j0 kk p1 p2 p3 p4 p5 p6 p7) lamSc cl pm c' ctv)) (hcd : s.heap.CodeRec (.ref c') qual)
    (hcl : cl.lookup (Str.ofString "heights") = some cc) (hcell : s.heap.IsCell cc (some (.ref L))) (hl : s.heap.IsList L its.toArray) (hi : IntsAre its js) (hz : js.length ≤ sizeLine) (h0 : 0 ≤ i) (h1 : i < js.length) :
    wpAny (model prog w) A (call (.ref f) [.int i t]) (PySem.W.KeyPure (keyI js i) s) (fun _ _ => False) s := by
  refine wpAny_call (PySem.W.kla_callFunE hroom ho rfl rfl rfl rfl hcd ?_)
  have hb : bindArgs (PySem.W.kla_fn "<lambda>" qual (lamPar pa) (lamBody j0 kk p1 p2 p3 p4 p5 p6 p7) lamSc cl pm (.ref c') ctv) ⟨[.int i t], []⟩ = pure [((Str.ofString "at"), Value.int i t)] := rfl
  rw [hb]
  refine wpAny_pure (wpAny_newFunctionEnv (by intro x hx; simp only [lamSc, List.mem_cons, List.not_mem_nil, or_false] at hx; rcases hx with rfl | rfl <;> simp) (by intro x hx; rw [List.mem_singleton] at hx; subst hx; rfl) (fun h₁ hns hsb => ⟨lim.fresh _ hsb, ?_⟩) rfl)
  have kp : ∀ b o, s.heap.get? b = some o → h₁.get? b = some o := fun b o e => hsb.extBut b o (Nat.ne_of_lt (Heap.lt_size e)) (Heap.get?_push_of_some _ e)
  refine PySem.W.kla_codeExpr ?_
  have hn := line63
  have nat : ∀ {p : Pos} {s' : Shared} {Q : Value → Shared → Prop} {E : Value → Shared → Prop} {A' : Around} {env : Env}, env = newEnv lamSc s.heap.objs.size mainGlobals cl (qual ++ ".<locals>.") (some f) (.ref c') none builtinsNs → s'.heap.Ns s.heap.objs.size (fun x => ([((Str.ofString "at"), Value.int i t)] : List (Str × Value)).reverse.lookup x) → Q (.int i t) s' → wpAny (model prog w) A' (eval (.Name "at" p) env) Q E s' := by
    intro p s' Q E A' env he hs hq
    subst he
    exact wpAny_Name (wpAny_loadName_local rfl rfl hs rfl hq) (by decide)
  refine wpAny_Tuple_spliced ?_
  refine Calls.spliced_cons (wpAny_BinOp (wpAny_Constant_int ?_))
  refine Subscript_ (wpAny_Name (wpAny_loadName_free rfl rfl hcl (hcell.keeps kp) ?_) (by decide))
  refine nat rfl hns ?_
  refine item_list_intsR (show h₁.IsList L its.toArray from let ⟨o, e, r⟩ := hl; ⟨o, kp _ _ e, r⟩) hi h0 h1 (by omega) fun t2 => ?_
  refine sub_int ?_
  refine Calls.spliced_cons (nat rfl hns (Calls.spliced_nil ⟨?_, ?_⟩))
  · show 2 ≤ sizeLine
    decide
  · refine ⟨_, _, rfl, fun b o e => Heap.get?_push_of_some _ (kp b o e), ?_⟩
    exact .tuple (as := []) (Heap.get?_push_size _ rfl) rfl rfl (.cons (as := []) (bs := []) (.int _ _) (.cons (as := []) (bs := []) (.int _ _) .nil))
end

/-! ### the lambda is made -/
section
variable {X : Cx} {pins : List (Addr × Obj)} {σ : L2.St} {H : Hp} {s : Shared}
theorem lam_mk {c P : Addr} {params : Arguments} {body : Expr} {scope : Scope} {pos : Pos} {E : Value → Shared → Prop} {Q : Value → Shared → Prop} (I : Inv X pins σ H s) (TB : LamX.TabB X.base X.mg c P) (hcode : X.env.code = .ref c)
    (hn : nmAt pos.line pos.col = X.env.qual ++ "<lambda>") (hT : NdefX.TabN H P nmAt) (hdef : defaultsOf params X.env = ([], [])) (hfree : ∀ y ∈ scope.names, y.2 = .free → ∃ c, X.env.cells.lookup y.1 = some c)
    (h : ∀ (f c' : Addr) (pm ctv : Value) (H1 : Hp) (s' : Shared), Inv X pins σ H1 s' → Same H H1 →
      s'.heap.get? f = some (PySem.W.kla_obj "<lambda>" (X.env.qual ++ "<lambda>") params body scope (cloFrom X.env.cells scope.names []) pm c' ctv) → s'.heap.CodeRec (.ref c') (X.env.qual ++ "<lambda>") → Q (.ref f) s') :
    wpAny (model X.prog X.w) X.A (eval (.Lambda params body scope pos) X.env) Q E s := by
  obtain ⟨ps, hP, ht, ha⟩ := hT
  refine PySem.W.kla_eval hdef ?_
  have bP : s.heap.BuiltinsAt X.mg P := TB.bm.keeps I.bk
  have hP' : s.heap.get? P = some { cls := .none, data := .fields ps } := I.hok P _ hP
  cases hc : codeAmong pos ps.toList with
  | none =>
    refine PySem.W.kla_makeFunction (mg := X.mg) (c := c) (P := P) (ps := ps) (closure_ok hfree) I.ok.glob (I.mod.glob.keeps I.bk) hcode (TB.code.keeps I.bk) hP' ht hc TB.gP bP fun c' ctv h' tk hx hge hlt hrec htb => ?_
    obtain ⟨c2, oc, vs, t, e2, hoc, hd, hv⟩ := hrec
    cases e2
    have nC : H c' = none := I.hok.fresh hge
    have I1 := LamX.inv_table (t' := tk) (more := #[rawInt pos.line, rawInt pos.col, .ref c']) (h' := h'.push (PySem.W.kla_obj "<lambda>" (X.env.qual ++ "<lambda>") params body scope (cloFrom X.env.cells scope.names []) ((X.mg "__name__").getD .none) c' ctv)) I hP
      (fun b o hb e => Heap.get?_push_of_some _ (hx b o hb e)) (Heap.get?_push_of_some _ htb) hge ⟨oc, vs, t, Heap.get?_push_of_some _ hoc, hd, hv⟩
    have nPc : P ≠ c' := ne_of_none hP nC
    have hE : ∀ b o, H b = some o → (∀ ps, o ≠ .tbl ps) → upd (upd H P (.tbl (ps ++ #[rawInt pos.line, rawInt pos.col, .ref c']))) c' (LamX.CodeO c' (X.env.qual ++ "<lambda>")) b = some o := fun b o e n => by
      rw [upd_ne (ne_of_none e nC), upd_ne (fun z => n ps (Option.some.inj (e.symm.trans (by rw [z]; exact hP))))]
      exact e
    have eL : (ps ++ #[rawInt pos.line, rawInt pos.col, .ref c']).toList = ps.toList ++ [rawInt pos.line, rawInt pos.col, .ref c'] := by simp
    refine h h'.objs.size c' ((X.mg "__name__").getD .none) ctv _ _ I1 ⟨hE, fun b qs e => ?_, fun P' hT' => ?_⟩ (Heap.get?_push_size _ rfl) ⟨c', oc, vs, t, rfl, Heap.get?_push_of_some _ hoc, hd, hv⟩
    · by_cases hb : b = P
      · subst hb
        exact ⟨_, by rw [upd_ne nPc, upd_same]⟩
      · exact ⟨qs, by rw [upd_ne (ne_of_none e nC), upd_ne hb]; exact e⟩
    · by_cases hb : P' = P
      · subst hb
        refine ⟨_, by rw [upd_ne nPc, upd_same], by rw [eL]; exact PySem.TriplesOk_snoc _ _ _ _ ht, fun p' cv hcv => ?_⟩
        rw [eL] at hcv
        rcases NdefX.among_app2 _ ht hcv with z | ⟨z, z1, z2⟩
        · obtain ⟨c0, e1, e2⟩ := ha p' cv z
          exact ⟨c0, e1, hE _ _ e2 LamX.codeO_ne⟩
        · refine ⟨c', z, ?_⟩
          rw [← z1, ← z2, hn]
          exact upd_same
      · obtain ⟨ps', a1, a2, a3⟩ := hT'
        refine ⟨ps', by rw [upd_ne (ne_of_none a1 nC), upd_ne hb]; exact a1, a2, fun p' cv hcv => ?_⟩
        obtain ⟨c0, e1, e2⟩ := a3 p' cv hcv
        exact ⟨c0, e1, hE _ _ e2 LamX.codeO_ne⟩
  | some cv =>
    obtain ⟨c', e, hco⟩ := ha pos cv hc
    subst e
    rw [hn] at hco
    have cr := NdefX.codeO_at I.hok hco
    refine PySem.W.kla_makeFunctionHit (mg := X.mg) (c := c) (P := P) (ps := ps) (closure_ok hfree) I.ok.glob (I.mod.glob.keeps I.bk) hcode (TB.code.keeps I.bk) hP' ht hc bP fun ctv h' tk hx hsz => ?_
    have kp : ∀ b o, s.heap.get? b = some o → (h'.push (PySem.W.kla_obj "<lambda>" (X.env.qual ++ "<lambda>") params body scope (cloFrom X.env.cells scope.names []) ((X.mg "__name__").getD .none) c' ctv)).get? b = some o := fun b o e => Heap.get?_push_of_some _ (hx b o e)
    have I1 : Inv X pins σ H { s with heap := h'.push (PySem.W.kla_obj "<lambda>" (X.env.qual ++ "<lambda>") params body scope (cloFrom X.env.cells scope.names []) ((X.mg "__name__").getD .none) c' ctv), toks := tk } := I.kept kp
    obtain ⟨c2, oc, vs, t, e2, hoc, hd, hv⟩ := cr
    exact h h'.objs.size c' ((X.mg "__name__").getD .none) ctv H _ I1 (Same.refl _) (Heap.get?_push_size _ rfl) ⟨c2, oc, vs, t, e2, kp _ _ hoc, hd, hv⟩
end

/-! ### the sorted list -/
/-- the places, sorted by their keys -/
def srtK (js is : List Int) : List Int := is.mergeSort (PySem.W.dataLe false (keyI js))
noncomputable def gSK (o : Option (Option PyData)) : List PyData → R PyData
  | [.list es] => match o with
    | some (some (.list hs)) => match intsOf es, intsOf hs with
      | some is, some js => if (∀ i ∈ is, 0 ≤ i ∧ i < js.length) ∧ is.length ≤ szl ∧ js.length ≤ szl then .ok (.list ((srtK js is).map PyData.int)) else .no
      | _, _ => .no
    | _ => .no
  | _ => .no
noncomputable def eSortK (j : Nat) (fs : List EF) (env : List (Option PyData)) : R PyData := (aAll fs env).bind (gSK env[j]?)
theorem each_ints : ∀ {us : List Value} {ns : List Int}, IntsAre us ns → PySem.W.EachIs (fun (u : Value) (i : Int) => ∃ t, u = .int i t) us ns
  | _, _, .nil => .nil
  | _, _, .cons n t r => .cons ⟨t, rfl⟩ (each_ints r)
theorem ints_each : ∀ {us : List Value} {ns : List Int}, PySem.W.EachIs (fun (u : Value) (i : Int) => ∃ t, u = .int i t) us ns → IntsAre us ns
  | _, _, .nil => .nil
  | _, _, .cons ⟨t, e⟩ r => by subst e; exact .cons _ t (ints_each r)
theorem keys_alike (js is : List Int) : PySem.W.AllAlike (is.map (keyI js)) := by
  intro d hd e he
  obtain ⟨a, _, rfl⟩ := List.mem_map.mp hd
  obtain ⟨b, _, rfl⟩ := List.mem_map.mp he
  simp [keyI, PySem.W.alike, PySem.W.alikeAll]
theorem keys_sortable (js is : List Int) : PySem.W.Sortable (is.map (keyI js)) := by
  refine .inl fun d hd => ?_
  obtain ⟨a, _, rfl⟩ := List.mem_map.mp hd
  exact ⟨_, _, rfl⟩
section
variable {X : Cx} {ec : Nat → Addr} {W : WX} {e : Expr} {fs : List EF} {c P : Addr} {j j0 kk : Nat} {pa p1 p2 p3 p4 p5 p6 p7 lp kp p pos : Pos}
theorem se_sortK (hu : X.A.units + 70 < cLine) (hdep : X.A.depth < recursionLimit) (hg : Gl X "sorted") (hm : X.mg "sorted" = none) (TB : LamX.TabB X.base X.mg c P) (hcode : X.env.code = .ref c) (hP : P ∈ tabs) (hn : nmAt lp.line lp.col = X.env.qual ++ "<lambda>")
    (hj : X.N[j]? = some (Str.ofString "heights")) (hsc : X.env.scope.names.lookup (Str.ofString "heights") = some .cell) (hdef : defaultsOf (lamPar pa) X.env = ([], []))
    (ha : PA X [e] (tDA X.K ec W fs)) (he : starEach [e] X.env = (false, eval e X.env) :: starEach [] X.env := by rfl) :
    PE X (.Call (.Name "sorted" p) [e] [⟨some "key", .Lambda (lamPar pa) (lamBody j0 kk p1 p2 p3 p4 p5 p6 p7) lamSc lp, kp⟩] pos) (tD X.K ec W (eSortK j fs)) := by
  refine ⟨fun pins s σ H Q I ⟨G, env, sg, E, q⟩ => ?_⟩
  have hfree : ∀ y ∈ lamSc.names, y.2 = .free → ∃ c, X.env.cells.lookup y.1 = some c := fun y hy e => by
    simp only [lamSc, List.mem_cons, List.not_mem_nil, or_false] at hy
    rcases hy with rfl | rfl
    · cases e
    · exact I.ok.has _ (.inl hsc)
  refine wpAny_Call_Name_kw (ld_blt (u := .builtin "sorted") I hg hm (by decide +kernel) ?_ (by decide) (by decide))
  refine callWith_kw (thn (ha.run pos pins s σ H (fun vs H1 => ∃ ds G1, Ext G H G1 H1 ∧ RepA X.K G1 vs ds ∧ Post X.K ec W σ G1 H1 Q (gSK env[j]? ds)) I ⟨G, env, sg, E, PostL.bind q fun vs ds G1 H1 _ e1 r1 p1 => ⟨ds, G1, e1, r1, p1⟩⟩) fun us s1 ⟨vs, H1, I1, rv, ds, G1, e1, r1, p1⟩ => ?_) (by rw [he]; rfl) (by rw [he]; rfl)
  refine wpAny_evalAll_cons (wpAny_bind (lam_mk I1 TB hcode hn (e1.i.tx P (E.tb.mono e1.g P hP)) hdef hfree fun f c' pm ctv H2 s2 I2 sm hf hcr => wpAny_bind (wpAny_standAt (wpAny_pure (wpAny_evalAll_nil ?_)))))
  unfold gSK at p1
  split at p1
  · rename_i es
    split at p1
    · rename_i hs ej
      split at p1
      · rename_i is js hes hhs
        split at p1
        · rename_i hc
          obtain ⟨hin, hz1, hz2⟩ := hc
          rw [intsOf_eq hes] at r1
          cases r1 with
          | cons ra rb =>
            cases rb
            cases ra with
            | @lst a xs _ hl rx =>
              have ex := rx.ints
              subst ex
              obtain ⟨v, hσ, rh⟩ := E.at' j _ ej
              rw [intsOf_eq hhs] at rh
              cases rh with
              | @lst L ys _ hL ry =>
                have ey := ry.ints
                subst ey
                have sH : Same G1 H2 := e1.i.trans sm
                obtain ⟨its, rv2, pl, _⟩ := I2.list (ls_same sH hl).sq
                obtain ⟨jts, rj, plj, _⟩ := I2.list (ls_same (e1.g.trans sH) hL).sq
                obtain ⟨m, hn', hl'⟩ := I2.loc
                obtain ⟨u, ru, lu⟩ := hl' j _ _ hj hσ (.inr (.inl hsc))
                cases (show u = Value.ref L from ru)
                rcases lu with ⟨hk, _⟩ | ⟨hk, cc, hcc, hcell⟩
                · have hk' : X.env.scope.names.lookup (Str.ofString "heights") = some .local := hk
                  rw [hsc] at hk'
                  cases hk'
                · have hclo : (cloFrom X.env.cells lamSc.names []).lookup (Str.ofString "heights") = some cc := NdefX.clo_has hfree (by simp [lamSc]) hcc
                  have hus := Vals.ref1 rv
                  subst hus
                  have e0 := I2.env0
                  have lim : s2.heap.NoLimit := e0.mod.nolimit.keeps fun b o e => (e0.bs b o e).1
                  show wpAny _ _ (call (.builtin "sorted") [.ref a] [(Str.ofString "key", .ref f)]) _ _ _
                  refine PySem.W.sorted_key_data (k := keyI js) (R := fun (u : Value) (i : Int) => ∃ t, u = .int i t) (bs := is) (b := false) (f := .ref f) pl.isList (each_ints (Vals.ints rv2)) (keys_alike js is) (keys_sortable js is) (szl_line hz1) (fun i _ => ?_) (PyProof.Rows.ksk_s1 _ _) (fun x => PyProof.Rows.ksk_l1 _ _) (fun x => PyProof.Rows.ksk_t1 _ _) (fun v i ⟨t, ev⟩ hi h tk kp' => ?_) fun out c h' tk kp' hno hD hlen he' => ?_
                  · have : (keyI js i).depth ≤ 2 := by simp [keyI, PyData.depth, PyData.depthAll]
                    omega
                  · subst ev
                    obtain ⟨c2, oc, vs, t3, e2, hoc, hd, hv⟩ := hcr
                    exact key_call (s := { s2 with heap := h, toks := tk }) hdep (lim.keeps kp') (kp' _ _ hf) ⟨c2, oc, vs, t3, e2, kp' _ _ hoc, hd, hv⟩ hclo (hcell.keeps kp') (show h.IsList L jts.toArray from let ⟨o, e, r⟩ := plj.isList; ⟨o, kp' _ _ e, r⟩) (Vals.ints rj) (szl_line hz2) (hin i hi).1 (hin i hi).2
                  · have hle : ((srtK js is).map V.int).length ≤ sizeLine := by rw [List.length_map]; unfold srtK; rw [List.length_mergeSort]; exact szl_line hz1
                    have hfr : H2 (s2.heap.objs.size + 1) = none := I2.hok.fresh (Nat.le_succ _)
                    have hi' : Ext G1 H1 G1 H2 := Ext.heap e1.i sm
                    exact ⟨.ref _, upd H2 (s2.heap.objs.size + 1) (.lst ((srtK js is).map V.int)), I2.laid (t' := tk) kp' (Nat.le_succ _) ⟨hle, out, c, vals_of_ints (ints_each he'), hD⟩, rfl, p1 _ _ _ (hi'.trans (Ext.new sH hfr)) (ext_list sH hfr (repA_ints _))⟩
        · exact p1.elim
      · exact p1.elim
    · exact p1.elim
  · exact p1.elim
end
end PL
/-! PL, part o: list(range(n)); a def whose code object is known. -/
namespace PL
open PySem PySem.Spec PyProof.Rows L2
noncomputable def dLstRg (x : PyData) : R PyData := match x with
  | .int n => if -lim < n ∧ n.toNat ≤ szl then .ok (.list (rngF 0 n.toNat)) else .no
  | _ => .no
theorem rgV_rep {K : PySem.W.Frag} {G : Hp} (n : Int) : RepA K G (rgV 0 n) (rngF 0 n.toNat) := by
  unfold rgV rngF
  rw [Int.sub_zero]
  generalize List.range n.toNat = l
  induction l with
  | nil => exact .nil
  | cons i l ih => exact .cons (.int _) ih
section
variable {X : Cx} {ec : Nat → Addr} {W : WX} {e : Expr} {f : EF} {p p2 pos pos2 : Pos}
theorem se_listRg (hc : X.calm = true) (hg : Gl X "list") (hm : X.mg "list" = none) (hg2 : Gl X "range") (hm2 : X.mg "range" = none) (ha : PE X e (tD X.K ec W f)) (na : starEach [e] X.env = (false, eval e X.env) :: starEach [] X.env := by rfl)
    (nb : starEach [.Call (.Name "range" p2) [e] [] pos2] X.env = (false, eval (.Call (.Name "range" p2) [e] [] pos2) X.env) :: starEach [] X.env := by rfl) :
    PE X (.Call (.Name "list" p) [.Call (.Name "range" p2) [e] [] pos2] [] pos) (tD X.K ec W (eUn dLstRg f)) :=
  PE_imp (pe_listRg hc hg hm (prg_1 hg2 hm2 ha na) nb) fun σ H Q ⟨G, env, s, E, p⟩ => ⟨G, env, s, E, Post.bind p fun v d G1 H1 qz e1 r1 p1 => by
    clear qz
    unfold dLstRg at p1
    split at p1
    · rename_i n
      split at p1
      · rename_i hn
        cases r1
        have hl := lim_eq
        have hs := szl_eq
        exact ⟨n, rfl, ⟨by omega, by omega, by omega, by omega, by omega⟩, fun q nq => p1 _ _ _ (Ext.new e1.i nq) (ext_list e1.i nq (rgV_rep n))⟩
      · exact p1.elim
    · exact p1.elim⟩
end
theorem units70 {k : Nat} {A : Around} (r : Room k A) : A.units + 70 < cLine := by have := r.un; omega
section
variable {P : Program} {w : World} {K : PySem.W.Frag} {mg : Str → Option Value} {base : Heap}
theorem fn_pureC {ec : Nat → Addr} {x qual : Str} {st : Stmt} {f : Addr} {fd : FuncData} {N ps : List Str} {k n : Nat} {fb : SF} (F : Fun K x qual st f fd) (S : FnScope N ps (defScope st)) (hn : ps.length = n)
    (hbody : ∀ (A : Around) (outer : List Env) (s : Shared) (G0 H : Hp) (E : XK), Same G0 H → Room k (A.deeper (envOfC qual (defScope st) s.heap.objs.size f fd.code)) →
      PSs (cxOf (L2N.CX P w) P w K mg base N qual (defScope st) f fd.code A outer s H E) (defBody st) (tDS K ec (fun cls d _ H => E cls d H) G0 H fb)) :
    FnOk P w K mg base (L2N.CX P w) (k + 1) f fd ps (spP K ec n (runB N.length fb)) := by
  obtain ⟨oc, od, kV, doc, pm, an, cdv, ct, osl, rfl, lk, hcd⟩ := F.ex
  refine fn_of lk hcd S (fun vs H Q E h => by rw [h.1, hn]) fun A outer s H vs Q E hr h => ?_
  obtain ⟨hl, G, ds, t, i, r, p⟩ := h
  refine ⟨_, hbody A outer s G H E i hr, G, _, start_ok t i r, ?_⟩
  unfold runB at p
  cases q : fb (entry N.length ds) with
  | nx e => rw [q] at p; exact fun σ' G' H' g S' => p _ G' H' S'.x .non
  | rt d => rw [q] at p; exact p
  | ex c => rw [q] at p; exact fun _ H' s => p H' s
  | bk e => rw [q] at p; exact p.elim
  | ct e => rw [q] at p; exact p.elim
  | no => rw [q] at p; exact p.elim
end
end PL
namespace My
open PySem L2 PL
noncomputable section
def top (i : Nat) : Stmt := PySem.Challenge.pw_tellweight_k70_groups.main.body.getD i (.Pass ⟨0, 0, 0, 0⟩)
def wdL : Nat → Option Str := fun c => if c = 3 then some "BadTable" else if c = 4 then some "BadWeights" else if c = 5 then some "NotPlain" else none
abbrev s__law_word : Stmt := top 34
abbrev N__law_word : List Str := ["e", "flags", "words", "flag"]
abbrev s__law_drawn : Stmt := top 33
abbrev N__law_drawn : List Str := ["cell", "k", "more"]
abbrev s__law_plain : Stmt := top 41
abbrev N__law_plain : List Str := ["more", "rows", "wide", "found", "j", "at", "k"]
abbrev s__law_weights : Stmt := top 43
abbrev N__law_weights : List Str := ["more", "many", "found", "j"]
abbrev s__law_made : Stmt := top 35
abbrev N__law_made : List Str := ["top", "under", "one", "other"]
abbrev s__law_cell : Stmt := top 32
abbrev N__law_cell : List Str := ["script", "k"]
abbrev s__law_plus : Stmt := top 36
abbrev N__law_plus : List Str := ["one", "other"]
abbrev s_common : Stmt := top 12
abbrev N_common : List Str := ["one", "other"]
abbrev s_fraction : Stmt := top 13
abbrev N_fraction : List Str := ["top", "under", "part"]
abbrev s_plus : Stmt := top 14
abbrev N_plus : List Str := ["one", "other"]
abbrev s_total : Stmt := top 15
abbrev N_total : List Str := ["some", "found", "one"]
abbrev s_is_fraction : Stmt := top 16
abbrev N_is_fraction : List Str := ["thing", "part"]
abbrev s_is_row : Stmt := top 18
abbrev N_is_row : List Str := ["row", "many", "one"]
abbrev s_need_table : Stmt := top 19
abbrev N_need_table : List Str := ["thing", "sights", "rows", "row", "one", "other"]
abbrev s_need_plain : Stmt := top 21
abbrev N_need_plain : List Str := ["thing", "row", "one"]
abbrev s_need_weights : Stmt := top 25
abbrev N_need_weights : List Str := ["weights", "many", "one"]
abbrev s_places : Stmt := top 22
abbrev N_places : List Str := ["thing", "row"]
abbrev s_classes : Stmt := top 23
abbrev N_classes : List Str := ["thing", "row", "place", "number", "one"]
abbrev s_order_of : Stmt := top 27
abbrev N_order_of : List Str := ["heights"]
abbrev s_groups : Stmt := top 28
abbrev N_groups : List Str := ["thing", "weights", "bound", "parts", "heights", "order", "left", "many", "part", "number", "at"]
abbrev s__law_told : Stmt := top 44
abbrev N__law_told : List Str := ["thing", "weights", "bound", "e"]
abbrev s__law_classes : Stmt := top 42
abbrev N__law_classes : List Str := ["thing", "found", "at", "part", "j", "row"]
abbrev s__law_most_groups : Stmt := top 45
abbrev N__law_most_groups : List Str := ["heights", "bound", "whole", "row", "found", "many"]
abbrev s_group_of : Stmt := top 29
abbrev N_group_of : List Str := ["thing", "found", "numbers", "at", "part", "number", "group", "row"]
abbrev s_grouped : Stmt := top 30
abbrev N_grouped : List Str := ["thing", "found", "rows", "number", "place"]
abbrev s__law_right : Stmt := top 46
abbrev N__law_right : List Str := ["thing", "weights", "bound", "parts", "heights", "due", "found", "members", "group", "told", "whole", "at", "part", "number", "row", "j", "place"]
abbrev s_law : Stmt := top 47
abbrev N_law : List Str := ["script", "k", "more", "many", "thing", "weights", "low", "some", "half", "wrong", "bound"]
def c_NOUGHT : PyData := (.tuple [(.int 0), (.int 1)])
def c_ONE : PyData := (.tuple [(.int 1), (.int 1)])
def fb__law_drawn : SF := (sSeq (sAsg .P 2 (eBin dMod (eBin dAdd (eBin dMul (eVar 0) (eC (.int 6364136223846793005))) (eBin dMul (eBin dAdd (eVar 1) (eC (.int 1))) (eC (.int 1442695040888963407)))) (eC (.int 340282366920938463463374607431768211507)))) (sSeq (sAsg .P 2 (eBin dMod (eBin dMul (eVar 2) (eVar 2)) (eC (.int 340282366920938463463374607431768211297)))) (sSeq (sAsg .P 2 (eBin dMul (eBin dMul (eBin dAdd (eBin dMod (eVar 2) (eC (.int 18446744073709551557))) (eC (.int 1))) (eBin dAdd (eBin dDiv (eVar 2) (eC (.int 18446744073709551557))) (eC (.int 1)))) (eVar 2))) (sRet (eBin dMod (eVar 2) (eC (.int 340282366920938463463374607431768211507)))))))
def g__law_drawn : List PyData → R PyData := PL.shut (runB 3 fb__law_drawn)
theorem g__law_drawn_eq : g__law_drawn = runB 3 fb__law_drawn := PL.shut_eq _
def lp__law_plain_0 : SF := (sSeq (sAsg .P 5 (eBin dMod (eCall g__law_drawn [(eVar 0), (eBin dMul (eC (.int 3)) (eVar 4))]) (eVar 2))) (sApp .P 3 (eLc (cN 6) (iCall rng1 [(eVar 2)]) bYes (eTup [(eCall gInt [(eBin dEq (eVar 5) (eVar 6))]), (eC (.int 1))]))))
def fb__law_plain : SF := (sSeq (sOwn 3 (eLst [])) (sSeq (sFor (gN 4) (iCall rng1 [(eVar 1)]) lp__law_plain_0) (sRet (eTup [(eLc (cN 6) (iCall rng1 [(eVar 2)]) bYes (eBin dIx (eLst [(eTup [(eVar 6)]), (eTup [(eBin dDiv (eVar 6) (eC (.int 2))), (eVar 6)])]) (eBin dMod (eVar 0) (eC (.int 2))))), (eVar 3)]))))
def g__law_plain : List PyData → R PyData := PL.shut (runB 7 fb__law_plain)
theorem g__law_plain_eq : g__law_plain = runB 7 fb__law_plain := PL.shut_eq _
def fb__law_weights : SF := (sSeq (sOwn 2 (eLc (cN 3) (iCall rng1 [(eVar 1)]) bYes (eBin dIx (eLst [(eC (.int 0)), (eC (.int 1)), (eC (.int 2)), (eC (.int 5)), (eC (.int 0)), (eC (.int 40)), (eC (.int 1))]) (eBin dMod (eCall g__law_drawn [(eVar 0), (eBin dAdd (eC (.int 50)) (eVar 3))]) (eC (.int 7)))))) (sSeq (sPut .P .P 2 (eBin dAdd (eC (.int 1)) (eBin dMod (eBin dDiv (eCall g__law_drawn [(eVar 0), (eC (.int 49))]) (eC (.int 64))) (eC (.int 9)))) (eBin dMod (eCall g__law_drawn [(eVar 0), (eC (.int 49))]) (eVar 1))) (sRet (eVar 2))))
def g__law_weights : List PyData → R PyData := PL.shut (runB 4 fb__law_weights)
theorem g__law_weights_eq : g__law_weights = runB 4 fb__law_weights := PL.shut_eq _
def lp__law_made_0 : SF := (sPar .P 2 3 [(eVar 3), (eBin dMod (eVar 2) (eVar 3))])
def fb__law_made : SF := (sSeq (sPar .P 2 3 [(eCall gAbs [(eVar 0)]), (eVar 1)]) (sSeq (sWhile fuelW (bVal (eBin dGt (eVar 3) (eC (.int 0)))) lp__law_made_0) (sRet (eTup [(eBin dDiv (eVar 0) (eVar 2)), (eBin dDiv (eVar 1) (eVar 2))]))))
def g__law_made : List PyData → R PyData := PL.shut (runB 4 fb__law_made)
theorem g__law_made_eq : g__law_made = runB 4 fb__law_made := PL.shut_eq _
def fb__law_cell : SF := (sSeq (sIf (bVal (eBin dEq (eVar 0) (eLst []))) (sRet (eBin dMul (eVar 1) (eC (.int 7919)))) sNil) (sRet (eBin dAdd (eBin dIx (eVar 0) (eBin dMod (eVar 1) (eCall gLen [(eVar 0)]))) (eBin dMul (eBin dDiv (eVar 1) (eCall gLen [(eVar 0)])) (eC (.int 104729))))))
def g__law_cell : List PyData → R PyData := PL.shut (runB 2 fb__law_cell)
theorem g__law_cell_eq : g__law_cell = runB 2 fb__law_cell := PL.shut_eq _
def fb__law_plus : SF := (sRet (eCall g__law_made [(eBin dAdd (eBin dMul (eBin dIx (eVar 0) (eC (.int 0))) (eBin dIx (eVar 1) (eC (.int 1)))) (eBin dMul (eBin dIx (eVar 1) (eC (.int 0))) (eBin dIx (eVar 0) (eC (.int 1))))), (eBin dMul (eBin dIx (eVar 0) (eC (.int 1))) (eBin dIx (eVar 1) (eC (.int 1))))]))
def g__law_plus : List PyData → R PyData := PL.shut (runB 2 fb__law_plus)
theorem g__law_plus_eq : g__law_plus = runB 2 fb__law_plus := PL.shut_eq _
def lp_common_0 : SF := (sPar .P 0 1 [(eVar 1), (eBin dMod (eVar 0) (eVar 1))])
def fb_common : SF := (sSeq (sWhile fuelW (bVal (eBin dGt (eVar 1) (eC (.int 0)))) lp_common_0) (sRet (eVar 0)))
def g_common : List PyData → R PyData := PL.shut (runB 2 fb_common)
theorem g_common_eq : g_common = runB 2 fb_common := PL.shut_eq _
def fb_fraction : SF := (sSeq (sAsg .P 2 (eCall g_common [(eCall gAbs [(eVar 0)]), (eVar 1)])) (sRet (eTup [(eBin dDiv (eVar 0) (eVar 2)), (eBin dDiv (eVar 1) (eVar 2))])))
def g_fraction : List PyData → R PyData := PL.shut (runB 3 fb_fraction)
theorem g_fraction_eq : g_fraction = runB 3 fb_fraction := PL.shut_eq _
def fb_plus : SF := (sRet (eCall g_fraction [(eBin dAdd (eBin dMul (eBin dIx (eVar 0) (eC (.int 0))) (eBin dIx (eVar 1) (eC (.int 1)))) (eBin dMul (eBin dIx (eVar 1) (eC (.int 0))) (eBin dIx (eVar 0) (eC (.int 1))))), (eBin dMul (eBin dIx (eVar 0) (eC (.int 1))) (eBin dIx (eVar 1) (eC (.int 1))))]))
def g_plus : List PyData → R PyData := PL.shut (runB 2 fb_plus)
theorem g_plus_eq : g_plus = runB 2 fb_plus := PL.shut_eq _
def lp_total_0 : SF := (sAsg .P 1 (eCall g_plus [(eVar 1), (eVar 2)]))
def fb_total : SF := (sSeq (sAsg .P 1 (eC c_NOUGHT)) (sSeq (sFor (gN 2) (iSeq (eVar 0)) lp_total_0) (sRet (eVar 1))))
def g_total : List PyData → R PyData := PL.shut (runB 3 fb_total)
theorem g_total_eq : g_total = runB 3 fb_total := PL.shut_eq _
def fb_is_fraction : SF := (sSeq (sIf (bOr (bNot (bVal (eUn (dIsi "tuple") (eVar 0)))) (bVal (eBin dNe (eCall gLen [(eVar 0)]) (eC (.int 2))))) (sRet (eC (.bool false))) sNil) (sSeq (sIf (bNot (bVal (eCall gAll [(eLc (cN 1) (iSeq (eVar 0)) bYes (eAnd (eUn (dIsi "int") (eVar 1)) (eNot (eUn (dIsi "bool") (eVar 1)))))]))) (sRet (eC (.bool false))) sNil) (sRet (eAnd (eBin dGt (eBin dIx (eVar 0) (eC (.int 1))) (eC (.int 0))) (eBin dEq (eCall g_common [(eCall gAbs [(eBin dIx (eVar 0) (eC (.int 0)))]), (eBin dIx (eVar 0) (eC (.int 1)))]) (eC (.int 1)))))))
def g_is_fraction : List PyData → R PyData := PL.shut (runB 2 fb_is_fraction)
theorem g_is_fraction_eq : g_is_fraction = runB 2 fb_is_fraction := PL.shut_eq _
def fb_is_row : SF := (sSeq (sIf (bOr (bVal (eBin dNe (eCall gLen [(eVar 0)]) (eVar 1))) (bNot (bVal (eCall gAll [(eLc (cN 2) (iSeq (eVar 0)) bYes (eAnd (eCall g_is_fraction [(eVar 2)]) (eBin dGe (eBin dIx (eVar 2) (eC (.int 0))) (eC (.int 0)))))])))) (sRet (eC (.bool false))) sNil) (sRet (eBin dEq (eCall g_total [(eVar 0)]) (eC c_ONE))))
def g_is_row : List PyData → R PyData := PL.shut (runB 3 fb_is_row)
theorem g_is_row_eq : g_is_row = runB 3 fb_is_row := PL.shut_eq _
def fb_need_table : SF := (sSeq (sAsgT .P (gT [1, 2]) (eVar 0)) (sSeq (sIf (bOr (bVal (eBin dEq (eVar 1) (eLst []))) (bOr (bVal (eBin dEq (eVar 2) (eLst []))) (bNot (bVal (eCall gAll [(eLc (cN 3) (iSeq (eVar 2)) bYes (eCall g_is_row [(eVar 3), (eCall gLen [(eVar 1)])]))]))))) (sRaise 3) sNil) (sIf (bNot (bVal (eCall gAll [(eLc (cT [4, 5]) (iCall zip2 [(eVar 1), (eSl (eVar 1) (some (eC (.int 1))) none)]) bYes (eBin dLtN (eVar 4) (eVar 5)))]))) (sRaise 3) sNil)))
def g_need_table : List PyData → R PyData := PL.shut (runB 6 fb_need_table)
theorem g_need_table_eq : g_need_table = runB 6 fb_need_table := PL.shut_eq _
def fb_need_plain : SF := (sSeq (sExpr (eCall g_need_table [(eVar 0)])) (sIf (bNot (bVal (eCall gAll [(eLc (cN 1) (iSeq (eBin dIx (eVar 0) (eC (.int 1)))) bYes (eCall gAll [(eLc (cN 2) (iSeq (eVar 1)) bYes (eBin dInT (eVar 2) (eTup [(eC c_NOUGHT), (eC c_ONE)])))]))]))) (sRaise 5) sNil))
def g_need_plain : List PyData → R PyData := PL.shut (runB 3 fb_need_plain)
theorem g_need_plain_eq : g_need_plain = runB 3 fb_need_plain := PL.shut_eq _
def fb_need_weights : SF := (sIf (bOr (bVal (eBin dNe (eCall gLen [(eVar 0)]) (eVar 1))) (bOr (bNot (bVal (eCall gAll [(eLc (cN 2) (iSeq (eVar 0)) bYes (eBin dGe (eVar 2) (eC (.int 0))))]))) (bVal (eBin dEq (eCall gSum [(eVar 0)]) (eC (.int 0)))))) (sRaise 4) sNil)
def g_need_weights : List PyData → R PyData := PL.shut (runB 3 fb_need_weights)
theorem g_need_weights_eq : g_need_weights = runB 3 fb_need_weights := PL.shut_eq _
def fb_places : SF := (sRet (eLc (cN 1) (iSeq (eBin dIx (eVar 0) (eC (.int 1)))) bYes (eIndex (eVar 1) (eC c_ONE))))
def g_places : List PyData → R PyData := PL.shut (runB 2 fb_places)
theorem g_places_eq : g_places = runB 2 fb_places := PL.shut_eq _
def fb_classes : SF := (sSeqF (sExpr (eCall g_need_plain [(eVar 0)])) (sSeqF (sAsg .P 1 (eCall g_places [(eVar 0)])) (sRetP (eLc (cN 2) (iSeq (eCall gSortSet [(eVar 1)])) bYes (eLc (cT [3, 4]) (iCall enum1 [(eVar 1)]) (bVal (eBin dEq (eVar 4) (eVar 2))) (eAt (eVar 3)))))))
def g_classes : List PyData → R PyData := PL.shut (runB 5 fb_classes)
theorem g_classes_eq : g_classes = runB 5 fb_classes := PL.shut_eq _
def fb_order_of : SF := (sRet (eSortK 0 [(eUn dLstRg (eCall gLen [(eVar 0)]))]))
def g_order_of : List PyData → R PyData := PL.shut (runB 1 fb_order_of)
theorem g_order_of_eq : g_order_of = runB 1 fb_order_of := PL.shut_eq _
def lp_groups_0 : SF := (sSeq (sIf (bVal (eBin dEq (eVar 7) (eCall gLen [(eVar 5)]))) (sRet (eC .none)) sNil) (sSeq (sAsg .P 6 (eBin dSub (eVar 6) (eBin dIx (eVar 4) (eBin dIx (eVar 5) (eVar 7))))) (sAsg .P 7 (eBin dAdd (eVar 7) (eC (.int 1))))))
def fb_groups : SF := (sSeq (sExpr (eCall g_need_plain [(eVar 0)])) (sSeq (sExpr (eCall g_need_weights [(eVar 1), (eCall gLen [(eBin dIx (eVar 0) (eC (.int 1)))])])) (sSeq (sAsg .P 3 (eCall g_classes [(eVar 0)])) (sSeq (sOwn 4 (eLc (cN 8) (iSeq (eVar 3)) bYes (eCall gMaxL [(eLc (cN 9) (iSeq (eVar 8)) bYes (eBin dIx (eVar 1) (eVar 9)))]))) (sFrz 4 (sSeq (sAsg .P 5 (eCall g_order_of [(eVar 4)])) (sSeq (sAsg .P 6 (eCall gSum [(eVar 4)])) (sSeq (sAsg .P 7 (eC (.int 1))) (sSeq (sWhile 20 (bVal (eBin dGt (eBin dMul (eVar 6) (eBin dIx (eVar 2) (eC (.int 1)))) (eBin dMul (eBin dIx (eVar 2) (eC (.int 0))) (eCall gSum [(eVar 1)])))) lp_groups_0) (sRet (eCall gSortD [(eBin dAdd (eLst [(eCall gSortD [(eSl (eVar 5) none (some (eVar 7)))])]) (eLc (cN 10) (iSeq (eSl (eVar 5) (some (eVar 7)) none)) bYes (eLst [(eVar 10)])))])))))))))))
def g_groups : List PyData → R PyData := PL.shut (runB 11 fb_groups)
theorem g_groups_eq : g_groups = runB 11 fb_groups := PL.shut_eq _
def fb__law_told : SF := (sTry wdL (sRet (eCall g_groups [(eVar 0), (eVar 1), (eVar 2)])))
def g__law_told : List PyData → R PyData := PL.shut (runB 4 fb__law_told)
theorem g__law_told_eq : g__law_told = runB 4 fb__law_told := PL.shut_eq _
def lp__law_classes_0 : SF := (sSeq (sOwn 3 (eLc (cT [4, 5]) (iCall enum1 [(eBin dIx (eVar 0) (eC (.int 1)))]) (bVal (eBin dEq (eBin dIx (eVar 5) (eVar 2)) (eTup [(eC (.int 1)), (eC (.int 1))]))) (eVar 4))) (sFrz 3 (sIf (bVal (eBin dNe (eVar 3) (eLst []))) (sApp .P 1 (eVar 3)) sNil)))
def fb__law_classes : SF := (sSeq (sOwn 1 (eLst [])) (sSeq (sFor (gN 2) (iCall rng1 [(eCall gLen [(eBin dIx (eVar 0) (eC (.int 0)))])]) lp__law_classes_0) (sRet (eVar 1))))
def g__law_classes : List PyData → R PyData := PL.shut (runB 6 fb__law_classes)
theorem g__law_classes_eq : g__law_classes = runB 6 fb__law_classes := PL.shut_eq _
def lp__law_most_groups_0 : SF := (sIf (bVal (eBin dLe (eBin dMul (eBin dAdd (eBin dIx (eVar 3) (eUn dNeg (eC (.int 1)))) (eCall gSum [(eSl (eVar 3) none (some (eBin dSub (eVar 5) (eC (.int 1)))))])) (eBin dIx (eVar 1) (eC (.int 1)))) (eBin dMul (eBin dIx (eVar 1) (eC (.int 0))) (eVar 2)))) (sAsg .P 4 (eVar 5)) sNil)
def fb__law_most_groups : SF := (sSeq (sAsg .P 3 (eCall gSortD [(eVar 0)])) (sSeq (sAsg .P 4 (eC (.int 0))) (sSeq (sFor (gN 5) (iCall rng2 [(eC (.int 1)), (eBin dAdd (eCall gLen [(eVar 3)]) (eC (.int 1)))]) lp__law_most_groups_0) (sRet (eVar 4)))))
def g__law_most_groups : List PyData → R PyData := PL.shut (runB 6 fb__law_most_groups)
theorem g__law_most_groups_eq : g__law_most_groups = runB 6 fb__law_most_groups := PL.shut_eq _
def lp_group_of_0 : SF := (sDSet .P .P 2 (eVar 5) (eVar 7))
def lp_group_of_1 : SF := (sIf (bVal (eBin dIn (eVar 3) (eVar 6))) (sFor (gN 7) (iSeq (eVar 4)) lp_group_of_0) sNil)
def lp_group_of_2 : SF := (sFor (gT [5, 6]) (iCall enum1 [(eVar 1)]) lp_group_of_1)
def fb_group_of : SF := (sSeq (sOwn 2 (eC (.dict []))) (sSeq (sFor (gT [3, 4]) (iCall enum1 [(eCall g_classes [(eVar 0)])]) lp_group_of_2) (sFrz 2 (sRet (eLc (cN 7) (iCall rng1 [(eCall gLen [(eBin dIx (eVar 0) (eC (.int 1)))])]) bYes (eBin dDIx (eVar 2) (eVar 7)))))))
def g_group_of : List PyData → R PyData := PL.shut (runB 8 fb_group_of)
theorem g_group_of_eq : g_group_of = runB 8 fb_group_of := PL.shut_eq _
def fb_grouped : SF := (sSeq (sExpr (eCall g_need_plain [(eVar 0)])) (sSeq (sOwn 2 (eLc (cN 3) (iSeq (eCall g_group_of [(eVar 0), (eVar 1)])) bYes (eLc (cN 4) (iCall rng1 [(eCall gLen [(eVar 1)])]) bYes (eIf (bVal (eBin dEq (eVar 4) (eVar 3))) (eC c_ONE) (eC c_NOUGHT))))) (sFrz 2 (sRet (eTup [(eLc (cN 4) (iCall rng1 [(eCall gLen [(eVar 1)])]) bYes (eTup [(eVar 4)])), (eVar 2)])))))
def g_grouped : List PyData → R PyData := PL.shut (runB 5 fb_grouped)
theorem g_grouped_eq : g_grouped = runB 5 fb_grouped := PL.shut_eq _
def lp__law_right_0 : SF := (sFrz 7 (sOwn 7 (eBin dAddL (eVar 7) (eCall gList [(eVar 8)]))))
def lp__law_right_1 : SF := (sIf (bVal (eBin dNe (eBin dIx (eBin dIx (eVar 10) (eC (.int 1))) (eVar 14)) (eLc (cN 16) (iCall rng1 [(eCall gLen [(eVar 6)])]) bYes (eTup [(eCall gInt [(eBin dEq (eVar 16) (eVar 13))]), (eC (.int 1))])))) (sRet (eC (.bool false))) sNil)
def lp__law_right_2 : SF := (sSeq (sAsg .P 13 (eBin dIx (eLc (cT [16, 8]) (iCall enum1 [(eVar 6)]) (bVal (eBin dIn (eVar 11) (eVar 8))) (eVar 16)) (eC (.int 0)))) (sFor (gN 14) (iSeq (eVar 12)) lp__law_right_1))
def fb__law_right : SF := (sSeq (sAsg .P 3 (eCall g__law_classes [(eVar 0)])) (sSeq (sAsg .P 4 (eLc (cN 12) (iSeq (eVar 3)) bYes (eCall gMaxL [(eLc (cN 15) (iSeq (eVar 12)) bYes (eBin dIx (eVar 1) (eVar 15)))]))) (sSeq (sAsg .P 5 (eCall g__law_most_groups [(eVar 4), (eVar 2), (eCall gSum [(eVar 1)])])) (sSeq (sAsg .P 6 (eCall g__law_told [(eVar 0), (eVar 1), (eVar 2)])) (sSeq (sIf (bOr (bVal (eBin dEq (eVar 5) (eC (.int 0)))) (bVal (eBin dIs (eVar 6) (eC .none)))) (sRet (eAnd (eBin dIs (eVar 6) (eC .none)) (eBin dEq (eVar 5) (eC (.int 0))))) sNil) (sSeq (sOwn 7 (eLst [])) (sSeq (sFor (gN 8) (iSeq (eVar 6)) lp__law_right_0) (sSeq (sIf (bOr (bNot (bVal (eUn (dIsi "list") (eVar 6)))) (bOr (bVal (eBin dNe (eCall gLen [(eVar 6)]) (eVar 5))) (bVal (eBin dNe (eCall gSortD [(eVar 7)]) (eUn dLstRg (eCall gLen [(eVar 3)])))))) (sRet (eC (.bool false))) sNil) (sSeq (sIf (bOr (bVal (eBin dNe (eVar 6) (eCall gSortD [(eVar 6)]))) (bNot (bVal (eCall gAll [(eLc (cN 8) (iSeq (eVar 6)) bYes (eAnd (eBin dEq (eVar 8) (eCall gSortD [(eVar 8)])) (eBin dNe (eVar 8) (eLst []))))])))) (sRet (eC (.bool false))) sNil) (sSeq (sAsg .P 9 (eCall gSum [(eLc (cN 8) (iSeq (eVar 6)) bYes (eCall gMaxL [(eLc (cN 11) (iSeq (eVar 8)) bYes (eBin dIx (eVar 4) (eVar 11)))]))])) (sSeq (sIf (bVal (eBin dGt (eBin dMul (eVar 9) (eBin dIx (eVar 2) (eC (.int 1)))) (eBin dMul (eBin dIx (eVar 2) (eC (.int 0))) (eCall gSum [(eVar 1)])))) (sRet (eC (.bool false))) sNil) (sSeq (sAsg .P 10 (eCall g_grouped [(eVar 0), (eVar 6)])) (sSeq (sIf (bVal (eBin dNe (eBin dIx (eVar 10) (eC (.int 0))) (eLc (cN 11) (iCall rng1 [(eCall gLen [(eVar 6)])]) bYes (eTup [(eVar 11)])))) (sRet (eC (.bool false))) sNil) (sSeq (sFor (gT [11, 12]) (iCall enum1 [(eVar 3)]) lp__law_right_2) (sRet (eC (.bool true)))))))))))))))))
def g__law_right : List PyData → R PyData := PL.shut (runB 17 fb__law_right)
theorem g__law_right_eq : g__law_right = runB 17 fb__law_right := PL.shut_eq _
def lp_law_0 : SF := (sSeq (sAsg .P 2 (eCall g__law_drawn [(eCall g__law_cell [(eVar 0), (eVar 1)]), (eVar 1)])) (sSeq (sAsg .P 3 (eBin dAdd (eC (.int 1)) (eBin dMod (eVar 2) (eC (.int 9))))) (sSeq (sAsg .P 4 (eCall g__law_plain [(eBin dDiv (eVar 2) (eC (.int 16))), (eVar 3), (eBin dAdd (eC (.int 1)) (eBin dMod (eBin dDiv (eVar 2) (eC (.int 256))) (eC (.int 7))))])) (sSeq (sAsg .P 5 (eCall g__law_weights [(eVar 2), (eVar 3)])) (sSeq (sAsg .P 6 (eCall g__law_made [(eCall gMaxL [(eVar 5)]), (eCall gSum [(eVar 5)])])) (sSeq (sAsg .P 7 (eLst [(eVar 6), (eCall g__law_plus [(eVar 6), (eTup [(eUn dNeg (eC (.int 1))), (eC (.int 1000))])]), (eTup [(eC (.int 1)), (eC (.int 1))])])) (sSeq (sAsg .P 7 (eBin dAdd (eVar 7) (eLst [(eCall g__law_plus [(eVar 6), (eTup [(eBin dAdd (eC (.int 1)) (eBin dMod (eBin dDiv (eVar 2) (eC (.int 2048))) (eC (.int 30)))), (eC (.int 60))])]), (eTup [(eC (.int 0)), (eC (.int 1))]), (eTup [(eUn dNeg (eC (.int 1))), (eC (.int 2))]), (eTup [(eC (.int 7)), (eC (.int 2))])]))) (sSeq (sIf (bNot (bVal (eCall gAll [(eLc (cN 10) (iSeq (eVar 7)) bYes (eCall g__law_right [(eVar 4), (eVar 5), (eVar 10)]))]))) (sRet (eC (.bool false))) sNil) (sSeq (sAsg .P 8 (eTup [(eLst [(eTup [(eC (.int 0))]), (eTup [(eC (.int 1))])]), (eBin dMul (eLst [(eLst [(eTup [(eC (.int 1)), (eC (.int 2))]), (eTup [(eC (.int 1)), (eC (.int 2))])])]) (eVar 3))])) (sSeq (sOwn 9 (eLst [(eCall g__law_told [(eVar 8), (eVar 5), (eTup [(eC (.int 1)), (eC (.int 1))])]), (eCall g__law_told [(eVar 4), (eSl (eVar 5) (some (eC (.int 1))) none), (eTup [(eC (.int 1)), (eC (.int 1))])])])) (sSeq (sApp .P 9 (eCall g__law_told [(eTup [(eLst []), (eLst [])]), (eVar 5), (eTup [(eC (.int 1)), (eC (.int 1))])])) (sIf (bVal (eBin dNe (eVar 9) (eLst [(eC (.str "NotPlain")), (eC (.str "BadWeights")), (eC (.str "BadTable"))]))) (sRet (eC (.bool false))) sNil))))))))))))
def fb_law : SF := (sSeq (sFor (gN 1) (iCall rng1 [(eCall gMax2 [(eC (.int 1)), (eCall gMin2 [(eC (.int 5)), (eCall gLen [(eVar 0)])])])]) lp_law_0) (sRet (eC (.bool true))))
def g_law : List PyData → R PyData := PL.shut (runB 11 fb_law)
theorem g_law_eq : g_law = runB 11 fb_law := PL.shut_eq _
end
structure Txt (K : PySem.W.Frag) (mg : Str → Option Value) (ec : Nat → Addr) : Prop where
  ValueError : mg "ValueError" = none
  abs : mg "abs" = none
  all : mg "all" = none
  bool : mg "bool" = none
  enumerate : mg "enumerate" = none
  int : mg "int" = none
  isinstance : mg "isinstance" = none
  len : mg "len" = none
  list : mg "list" = none
  max : mg "max" = none
  min : mg "min" = none
  range : mg "range" = none
  set : mg "set" = none
  sorted : mg "sorted" = none
  sum : mg "sum" = none
  tuple : mg "tuple" = none
  zip : mg "zip" = none
  c_NOUGHT : GlobD K mg "NOUGHT" c_NOUGHT
  c_ONE : GlobD K mg "ONE" c_ONE
  x_BadTable : ExcD K mg ec "BadTable" 3
  x_BadWeights : ExcD K mg ec "BadWeights" 4
  x_NotPlain : ExcD K mg ec "NotPlain" 5
  m_TellError : mg "TellError" = some (.ref (ec 8))
  m_BadHouse : mg "BadHouse" = some (.ref (ec 0))
  m_BadProgram : mg "BadProgram" = some (.ref (ec 1))
  m_BadSight : mg "BadSight" = some (.ref (ec 2))
  m_BadTable : mg "BadTable" = some (.ref (ec 3))
  m_BadWeights : mg "BadWeights" = some (.ref (ec 4))
  m_NotPlain : mg "NotPlain" = some (.ref (ec 5))
  m_TooMany : mg "TooMany" = some (.ref (ec 6))
  e_BadTable : ExcC K (ec 3)
  i_BadTable_BadHouse : PySem.W.kitOne K (.ref (ec 3)) (.ref (ec 0)) = some false
  i_BadTable_BadProgram : PySem.W.kitOne K (.ref (ec 3)) (.ref (ec 1)) = some false
  i_BadTable_BadSight : PySem.W.kitOne K (.ref (ec 3)) (.ref (ec 2)) = some false
  i_BadTable_BadTable : PySem.W.kitOne K (.ref (ec 3)) (.ref (ec 3)) = some true
  i_BadTable_BadWeights : PySem.W.kitOne K (.ref (ec 3)) (.ref (ec 4)) = some false
  i_BadTable_NotPlain : PySem.W.kitOne K (.ref (ec 3)) (.ref (ec 5)) = some false
  i_BadTable_TooMany : PySem.W.kitOne K (.ref (ec 3)) (.ref (ec 6)) = some false
  v_BadTable : PySem.W.kitOne K (.ref (ec 3)) (.type "ValueError") = some true
  e_BadWeights : ExcC K (ec 4)
  i_BadWeights_BadHouse : PySem.W.kitOne K (.ref (ec 4)) (.ref (ec 0)) = some false
  i_BadWeights_BadProgram : PySem.W.kitOne K (.ref (ec 4)) (.ref (ec 1)) = some false
  i_BadWeights_BadSight : PySem.W.kitOne K (.ref (ec 4)) (.ref (ec 2)) = some false
  i_BadWeights_BadTable : PySem.W.kitOne K (.ref (ec 4)) (.ref (ec 3)) = some false
  i_BadWeights_BadWeights : PySem.W.kitOne K (.ref (ec 4)) (.ref (ec 4)) = some true
  i_BadWeights_NotPlain : PySem.W.kitOne K (.ref (ec 4)) (.ref (ec 5)) = some false
  i_BadWeights_TooMany : PySem.W.kitOne K (.ref (ec 4)) (.ref (ec 6)) = some false
  v_BadWeights : PySem.W.kitOne K (.ref (ec 4)) (.type "ValueError") = some true
  e_NotPlain : ExcC K (ec 5)
  i_NotPlain_BadHouse : PySem.W.kitOne K (.ref (ec 5)) (.ref (ec 0)) = some false
  i_NotPlain_BadProgram : PySem.W.kitOne K (.ref (ec 5)) (.ref (ec 1)) = some false
  i_NotPlain_BadSight : PySem.W.kitOne K (.ref (ec 5)) (.ref (ec 2)) = some false
  i_NotPlain_BadTable : PySem.W.kitOne K (.ref (ec 5)) (.ref (ec 3)) = some false
  i_NotPlain_BadWeights : PySem.W.kitOne K (.ref (ec 5)) (.ref (ec 4)) = some false
  i_NotPlain_NotPlain : PySem.W.kitOne K (.ref (ec 5)) (.ref (ec 5)) = some true
  i_NotPlain_TooMany : PySem.W.kitOne K (.ref (ec 5)) (.ref (ec 6)) = some false
  v_NotPlain : PySem.W.kitOne K (.ref (ec 5)) (.type "ValueError") = some true
  xm : ∀ c z, wdL c = some z → PySem.W.exmOne K (.ref (ec c)) (.ref (ec 8)) = some true
section
variable {P : Program} {w : World} {K : PySem.W.Frag} {mg : Str → Option Value} {base : Heap} {ec : Nat → Addr}
theorem sc__law_word : FnScope N__law_word ["e"] (defScope s__law_word) := ⟨rfl, rfl, rfl, by decide +kernel, rfl, by decide +kernel, by decide +kernel⟩
theorem ok__law_word {f : Addr} {fd : FuncData} (F : Fun K "_law_word" "_law_word" s__law_word f fd) (T : Txt K mg ec) : FnW P w K mg base 1 f fd "e" ec wdL :=
  fn_word F sc__law_word fun cdv A outer s H E p c z hot hr hwd hz hf => by
    unfold wdL at hwd
    split at hwd
    · rename_i hc; subst hc; cases hwd
      have h : HeldE (L2H.cxH (L2N.CX P w) P w K mg base N__law_word "_law_word" (defScope s__law_word) f cdv A outer s H E p) p (ec 3) := ⟨List.mem_cons_self, ⟨hot.1, hot.2⟩, T.e_BadTable, hz, hf⟩
      exact ⟨_, (pss_cons (sw_new (H0 := H) (n := 4) (i := 1) sc__law_word.nd (pa_isC (pe_isW h rfl T.isinstance rfl (Or.inl rfl) rfl (.own rfl T.m_BadHouse) T.i_BadTable_BadHouse) (pa_isC (pe_isW h rfl T.isinstance rfl (Or.inl rfl) rfl (.own rfl T.m_BadProgram) T.i_BadTable_BadProgram) (pa_isC (pe_isW h rfl T.isinstance rfl (Or.inl rfl) rfl (.own rfl T.m_BadSight) T.i_BadTable_BadSight) pa_isN))) rfl (Or.inl rfl) (by decide) (by decide) (by decide)) (pss_cons (sw_more (H0 := H) (n := 4) (i := 1) sc__law_word.nd (pa_isC (pe_isW h rfl T.isinstance rfl (Or.inl rfl) rfl (.own rfl T.m_BadTable) T.i_BadTable_BadTable) pa_isN) rfl (Or.inl rfl) (Or.inl rfl) (by decide) (by decide) (by decide)) (pss_cons (sw_more (H0 := H) (n := 4) (i := 1) sc__law_word.nd (pa_isC (pe_isW h rfl T.isinstance rfl (Or.inl rfl) rfl (.own rfl T.m_BadWeights) T.i_BadTable_BadWeights) (pa_isC (pe_isW h rfl T.isinstance rfl (Or.inl rfl) rfl (.own rfl T.m_NotPlain) T.i_BadTable_NotPlain) (pa_isC (pe_isW h rfl T.isinstance rfl (Or.inl rfl) rfl (.own rfl T.m_TooMany) T.i_BadTable_TooMany) pa_isN))) rfl (Or.inl rfl) (Or.inl rfl) (by decide) (by decide) (by decide)) (pss_cons (sw_if (H0 := H) (n := 4) (i := 1) (c := 3) (own := [("flag", 3)]) h sc__law_word.nd rfl (Or.inl rfl) rfl (by decide) (by decide) (by decide) ⟨rfl, T.sum⟩ (fun _ _ _ _ _ => rfl) T.int (blkOk_by (N := N__law_word) (sc := defScope s__law_word) (by decide +kernel)) rfl (fun _ _ _ _ _ => pg_name (i := 3) sc__law_word.nd rfl (Or.inl rfl)) (fun _ _ _ _ _ => pe_var rfl (Or.inl rfl)) (pe_isW h rfl T.isinstance rfl (Or.inl rfl) rfl (.blt rfl T.ValueError (by decide +kernel)) T.v_BadTable) (pss_one (ps_ret pe_str)) (by decide)) (pss_cons (sw_words (H0 := H) (n := 4) (i := 1) (j := 2) sc__law_word.nd (pa_strC (pa_strC (pa_strC (pa_strC (pa_strC (pa_strC (pa_strC pa_strN))))))) rfl (Or.inl rfl) (by decide) (by decide) (by decide) (by decide)) (pss_one (sw_ret (p := p) (H0 := H) (n := 4) (i := 1) (j := 2) (m := 3) (fl := [false, false, false, true, false, false, false]) (ws := ["BadHouse", "BadProgram", "BadSight", "BadTable", "BadWeights", "NotPlain", "TooMany"]) rfl (Or.inl rfl) rfl (Or.inl rfl) rfl (fun m hm => match m, hm with | 0, _ => rfl | 1, _ => rfl | 2, _ => rfl) rfl))))))), fun D hD => ⟨⟨rfl, rfl, Same.refl _⟩, fun _ _ w1 => ⟨w1, fun _ _ w2 => ⟨w2, fun _ _ w3 => ⟨w3, fun _ _ w4 => ⟨w4, fun _ _ w5 => ⟨w5, hD⟩⟩⟩⟩⟩⟩⟩
    split at hwd
    · rename_i hc; subst hc; cases hwd
      have h : HeldE (L2H.cxH (L2N.CX P w) P w K mg base N__law_word "_law_word" (defScope s__law_word) f cdv A outer s H E p) p (ec 4) := ⟨List.mem_cons_self, ⟨hot.1, hot.2⟩, T.e_BadWeights, hz, hf⟩
      exact ⟨_, (pss_cons (sw_new (H0 := H) (n := 4) (i := 1) sc__law_word.nd (pa_isC (pe_isW h rfl T.isinstance rfl (Or.inl rfl) rfl (.own rfl T.m_BadHouse) T.i_BadWeights_BadHouse) (pa_isC (pe_isW h rfl T.isinstance rfl (Or.inl rfl) rfl (.own rfl T.m_BadProgram) T.i_BadWeights_BadProgram) (pa_isC (pe_isW h rfl T.isinstance rfl (Or.inl rfl) rfl (.own rfl T.m_BadSight) T.i_BadWeights_BadSight) pa_isN))) rfl (Or.inl rfl) (by decide) (by decide) (by decide)) (pss_cons (sw_more (H0 := H) (n := 4) (i := 1) sc__law_word.nd (pa_isC (pe_isW h rfl T.isinstance rfl (Or.inl rfl) rfl (.own rfl T.m_BadTable) T.i_BadWeights_BadTable) pa_isN) rfl (Or.inl rfl) (Or.inl rfl) (by decide) (by decide) (by decide)) (pss_cons (sw_more (H0 := H) (n := 4) (i := 1) sc__law_word.nd (pa_isC (pe_isW h rfl T.isinstance rfl (Or.inl rfl) rfl (.own rfl T.m_BadWeights) T.i_BadWeights_BadWeights) (pa_isC (pe_isW h rfl T.isinstance rfl (Or.inl rfl) rfl (.own rfl T.m_NotPlain) T.i_BadWeights_NotPlain) (pa_isC (pe_isW h rfl T.isinstance rfl (Or.inl rfl) rfl (.own rfl T.m_TooMany) T.i_BadWeights_TooMany) pa_isN))) rfl (Or.inl rfl) (Or.inl rfl) (by decide) (by decide) (by decide)) (pss_cons (sw_if (H0 := H) (n := 4) (i := 1) (c := 3) (own := [("flag", 3)]) h sc__law_word.nd rfl (Or.inl rfl) rfl (by decide) (by decide) (by decide) ⟨rfl, T.sum⟩ (fun _ _ _ _ _ => rfl) T.int (blkOk_by (N := N__law_word) (sc := defScope s__law_word) (by decide +kernel)) rfl (fun _ _ _ _ _ => pg_name (i := 3) sc__law_word.nd rfl (Or.inl rfl)) (fun _ _ _ _ _ => pe_var rfl (Or.inl rfl)) (pe_isW h rfl T.isinstance rfl (Or.inl rfl) rfl (.blt rfl T.ValueError (by decide +kernel)) T.v_BadWeights) (pss_one (ps_ret pe_str)) (by decide)) (pss_cons (sw_words (H0 := H) (n := 4) (i := 1) (j := 2) sc__law_word.nd (pa_strC (pa_strC (pa_strC (pa_strC (pa_strC (pa_strC (pa_strC pa_strN))))))) rfl (Or.inl rfl) (by decide) (by decide) (by decide) (by decide)) (pss_one (sw_ret (p := p) (H0 := H) (n := 4) (i := 1) (j := 2) (m := 4) (fl := [false, false, false, false, true, false, false]) (ws := ["BadHouse", "BadProgram", "BadSight", "BadTable", "BadWeights", "NotPlain", "TooMany"]) rfl (Or.inl rfl) rfl (Or.inl rfl) rfl (fun m hm => match m, hm with | 0, _ => rfl | 1, _ => rfl | 2, _ => rfl | 3, _ => rfl) rfl))))))), fun D hD => ⟨⟨rfl, rfl, Same.refl _⟩, fun _ _ w1 => ⟨w1, fun _ _ w2 => ⟨w2, fun _ _ w3 => ⟨w3, fun _ _ w4 => ⟨w4, fun _ _ w5 => ⟨w5, hD⟩⟩⟩⟩⟩⟩⟩
    split at hwd
    · rename_i hc; subst hc; cases hwd
      have h : HeldE (L2H.cxH (L2N.CX P w) P w K mg base N__law_word "_law_word" (defScope s__law_word) f cdv A outer s H E p) p (ec 5) := ⟨List.mem_cons_self, ⟨hot.1, hot.2⟩, T.e_NotPlain, hz, hf⟩
      exact ⟨_, (pss_cons (sw_new (H0 := H) (n := 4) (i := 1) sc__law_word.nd (pa_isC (pe_isW h rfl T.isinstance rfl (Or.inl rfl) rfl (.own rfl T.m_BadHouse) T.i_NotPlain_BadHouse) (pa_isC (pe_isW h rfl T.isinstance rfl (Or.inl rfl) rfl (.own rfl T.m_BadProgram) T.i_NotPlain_BadProgram) (pa_isC (pe_isW h rfl T.isinstance rfl (Or.inl rfl) rfl (.own rfl T.m_BadSight) T.i_NotPlain_BadSight) pa_isN))) rfl (Or.inl rfl) (by decide) (by decide) (by decide)) (pss_cons (sw_more (H0 := H) (n := 4) (i := 1) sc__law_word.nd (pa_isC (pe_isW h rfl T.isinstance rfl (Or.inl rfl) rfl (.own rfl T.m_BadTable) T.i_NotPlain_BadTable) pa_isN) rfl (Or.inl rfl) (Or.inl rfl) (by decide) (by decide) (by decide)) (pss_cons (sw_more (H0 := H) (n := 4) (i := 1) sc__law_word.nd (pa_isC (pe_isW h rfl T.isinstance rfl (Or.inl rfl) rfl (.own rfl T.m_BadWeights) T.i_NotPlain_BadWeights) (pa_isC (pe_isW h rfl T.isinstance rfl (Or.inl rfl) rfl (.own rfl T.m_NotPlain) T.i_NotPlain_NotPlain) (pa_isC (pe_isW h rfl T.isinstance rfl (Or.inl rfl) rfl (.own rfl T.m_TooMany) T.i_NotPlain_TooMany) pa_isN))) rfl (Or.inl rfl) (Or.inl rfl) (by decide) (by decide) (by decide)) (pss_cons (sw_if (H0 := H) (n := 4) (i := 1) (c := 3) (own := [("flag", 3)]) h sc__law_word.nd rfl (Or.inl rfl) rfl (by decide) (by decide) (by decide) ⟨rfl, T.sum⟩ (fun _ _ _ _ _ => rfl) T.int (blkOk_by (N := N__law_word) (sc := defScope s__law_word) (by decide +kernel)) rfl (fun _ _ _ _ _ => pg_name (i := 3) sc__law_word.nd rfl (Or.inl rfl)) (fun _ _ _ _ _ => pe_var rfl (Or.inl rfl)) (pe_isW h rfl T.isinstance rfl (Or.inl rfl) rfl (.blt rfl T.ValueError (by decide +kernel)) T.v_NotPlain) (pss_one (ps_ret pe_str)) (by decide)) (pss_cons (sw_words (H0 := H) (n := 4) (i := 1) (j := 2) sc__law_word.nd (pa_strC (pa_strC (pa_strC (pa_strC (pa_strC (pa_strC (pa_strC pa_strN))))))) rfl (Or.inl rfl) (by decide) (by decide) (by decide) (by decide)) (pss_one (sw_ret (p := p) (H0 := H) (n := 4) (i := 1) (j := 2) (m := 5) (fl := [false, false, false, false, false, true, false]) (ws := ["BadHouse", "BadProgram", "BadSight", "BadTable", "BadWeights", "NotPlain", "TooMany"]) rfl (Or.inl rfl) rfl (Or.inl rfl) rfl (fun m hm => match m, hm with | 0, _ => rfl | 1, _ => rfl | 2, _ => rfl | 3, _ => rfl | 4, _ => rfl) rfl))))))), fun D hD => ⟨⟨rfl, rfl, Same.refl _⟩, fun _ _ w1 => ⟨w1, fun _ _ w2 => ⟨w2, fun _ _ w3 => ⟨w3, fun _ _ w4 => ⟨w4, fun _ _ w5 => ⟨w5, hD⟩⟩⟩⟩⟩⟩⟩
    · cases hwd
theorem sc__law_drawn : FnScope N__law_drawn ["cell", "k"] (defScope s__law_drawn) := ⟨rfl, rfl, rfl, by decide +kernel, rfl, by decide +kernel, by decide +kernel⟩
theorem ok__law_drawn {f : Addr} {fd : FuncData} (F : Fun K "_law_drawn" "_law_drawn" s__law_drawn f fd) (T : Txt K mg ec)  : FnOk P w K mg base (L2N.CX P w) 1 f fd ["cell", "k"] (spP K ec 2 g__law_drawn) :=
  by
  rw [g__law_drawn_eq]
  exact fn_pure F sc__law_drawn rfl fun cdv A outer s G0 H E i0 hr => by
    have hu := hr.units; have hu1 := hu_of hr; have hu0 := hr.units0; have hu65 := units65 hr; have hu70 := units70 hr
    exact (ss_cons (ss_set .P (i := 2) sc__law_drawn.nd (se_mod (se_add (se_mul (se_var 0) se_int) (se_mul (se_add (se_var 1) se_int) se_int)) se_int)) (ss_cons (ss_set .P (i := 2) sc__law_drawn.nd (se_mod (se_mul (se_var 2) (se_var 2)) se_int)) (ss_cons (ss_set .P (i := 2) sc__law_drawn.nd (se_mul (se_mul (se_add (se_mod (se_var 2) se_int) se_int) (se_add (se_div (se_var 2) se_int) se_int)) (se_var 2))) (ss_one (ss_ret (se_mod (se_var 2) se_int))))))
theorem sc__law_plain : FnScope N__law_plain ["more", "rows", "wide"] (defScope s__law_plain) := ⟨rfl, rfl, rfl, by decide +kernel, rfl, by decide +kernel, by decide +kernel⟩
theorem ok__law_plain {f : Addr} {fd : FuncData} (F : Fun K "_law_plain" "_law_plain" s__law_plain f fd) (T : Txt K mg ec) (C__law_drawn : Cal P w K mg base ec "_law_drawn" 2 1 g__law_drawn) : FnOk P w K mg base (L2N.CX P w) 2 f fd ["more", "rows", "wide"] (spP K ec 3 g__law_plain) :=
  by
  rw [g__law_plain_eq]
  exact fn_pure F sc__law_plain rfl fun cdv A outer s G0 H E i0 hr => by
    have hu := hr.units; have hu1 := hu_of hr; have hu0 := hr.units0; have hu65 := units65 hr; have hu70 := units70 hr
    exact (ss_cons (ss_own (i := 3) sc__law_plain.nd (sn_lst sa_nil)) (ss_cons (ss_for hp_cx rfl (si_range1 rfl T.range (sa_cons (se_var 1) sa_nil)) (sg_name (i := 4) sc__law_plain.nd) (ss_cons (ss_set .P (i := 5) sc__law_plain.nd (se_mod (se_call C__law_drawn tk_cx (hr.mono (by decide)) rfl (sa_cons (se_var 0) (sa_cons (se_mul se_int (se_var 4)) sa_nil))) (se_var 2))) (ss_one (ss_app .P (i := 3) (se_new (sn_lc (own := [("k", 6)]) tg_name rfl rfl sc__law_plain.nd (si_range1 rfl T.range (sa_cons (se_var 2) sa_nil)) (blkOk_by (N := N__law_plain) (sc := defScope s__law_plain) (by decide +kernel)) (fun _ _ _ _ _ => (pg_name (i := 6) sc__law_plain.nd rfl (by first | exact Or.inl rfl | exact Or.inr rfl))) (fun _ _ _ _ _ => sts_nil) (fun _ _ _ _ _ => (se_tup (sa_cons (se_intc rfl T.int (sa_cons (se_eq hu (se_var 5) (se_var 6)) sa_nil)) (sa_cons se_int sa_nil)))))))))) (ss_one (ss_ret (se_tup (sa_cons (se_new (sn_lc (own := [("k", 6)]) tg_name rfl rfl sc__law_plain.nd (si_range1 rfl T.range (sa_cons (se_var 2) sa_nil)) (blkOk_by (N := N__law_plain) (sc := defScope s__law_plain) (by decide +kernel)) (fun _ _ _ _ _ => (pg_name (i := 6) sc__law_plain.nd rfl (by first | exact Or.inl rfl | exact Or.inr rfl))) (fun _ _ _ _ _ => sts_nil) (fun _ _ _ _ _ => (se_at (se_new (sn_lst (sa_cons (se_tup (sa_cons (se_var 6) sa_nil)) (sa_cons (se_tup (sa_cons (se_div (se_var 6) se_int) (sa_cons (se_var 6) sa_nil))) sa_nil)))) (se_mod (se_var 0) se_int))))) (sa_cons (se_var 3) sa_nil)))))))
theorem sc__law_weights : FnScope N__law_weights ["more", "many"] (defScope s__law_weights) := ⟨rfl, rfl, rfl, by decide +kernel, rfl, by decide +kernel, by decide +kernel⟩
theorem ok__law_weights {f : Addr} {fd : FuncData} (F : Fun K "_law_weights" "_law_weights" s__law_weights f fd) (T : Txt K mg ec) (C__law_drawn : Cal P w K mg base ec "_law_drawn" 2 1 g__law_drawn) : FnOk P w K mg base (L2N.CX P w) 2 f fd ["more", "many"] (spP K ec 2 g__law_weights) :=
  by
  rw [g__law_weights_eq]
  exact fn_pure F sc__law_weights rfl fun cdv A outer s G0 H E i0 hr => by
    have hu := hr.units; have hu1 := hu_of hr; have hu0 := hr.units0; have hu65 := units65 hr; have hu70 := units70 hr
    exact (ss_cons (ss_ownLc (i := 2) (own := [("j", 3)]) tg_name rfl rfl sc__law_weights.nd (si_range1 rfl T.range (sa_cons (se_var 1) sa_nil)) (blkOk_by (N := N__law_weights) (sc := defScope s__law_weights) (by decide +kernel)) (fun _ _ _ _ _ => (pg_name (i := 3) sc__law_weights.nd rfl (by first | exact Or.inl rfl | exact Or.inr rfl))) (fun _ _ _ _ _ => sts_nil) (fun _ _ _ _ _ => (se_at (se_new (sn_lst (sa_cons se_int (sa_cons se_int (sa_cons se_int (sa_cons se_int (sa_cons se_int (sa_cons se_int (sa_cons se_int sa_nil))))))))) (se_mod (se_call C__law_drawn takes0N (hr.mono (by decide)) rfl (sa_cons (se_var 0) (sa_cons (se_add se_int (se_var 3)) sa_nil))) se_int)))) (ss_cons (ss_put .P .P (i := 2) (se_add se_int (se_mod (se_div (se_call C__law_drawn tk_cx (hr.mono (by decide)) rfl (sa_cons (se_var 0) (sa_cons se_int sa_nil))) se_int) se_int)) (se_mod (se_call C__law_drawn tk_cx (hr.mono (by decide)) rfl (sa_cons (se_var 0) (sa_cons se_int sa_nil))) (se_var 1))) (ss_one (ss_ret (se_var 2)))))
theorem sc__law_made : FnScope N__law_made ["top", "under"] (defScope s__law_made) := ⟨rfl, rfl, rfl, by decide +kernel, rfl, by decide +kernel, by decide +kernel⟩
theorem ok__law_made {f : Addr} {fd : FuncData} (F : Fun K "_law_made" "_law_made" s__law_made f fd) (T : Txt K mg ec)  : FnOk P w K mg base (L2N.CX P w) 1 f fd ["top", "under"] (spP K ec 2 g__law_made) :=
  by
  rw [g__law_made_eq]
  exact fn_pure F sc__law_made rfl fun cdv A outer s G0 H E i0 hr => by
    have hu := hr.units; have hu1 := hu_of hr; have hu0 := hr.units0; have hu65 := units65 hr; have hu70 := units70 hr
    exact (ss_cons (ss_par .P (i := 2) (j := 3) rfl sc__law_made.nd (sa_cons (se_abs rfl T.abs (sa_cons (se_var 0) sa_nil)) (sa_cons (se_var 1) sa_nil))) (ss_cons (ss_while fuelW hp_cx (st_gt (se_var 3) se_int) (ss_one (ss_par .P (i := 2) (j := 3) rfl sc__law_made.nd (sa_cons (se_var 3) (sa_cons (se_mod (se_var 2) (se_var 3)) sa_nil))))) (ss_one (ss_ret (se_tup (sa_cons (se_div (se_var 0) (se_var 2)) (sa_cons (se_div (se_var 1) (se_var 2)) sa_nil)))))))
theorem sc__law_cell : FnScope N__law_cell ["script", "k"] (defScope s__law_cell) := ⟨rfl, rfl, rfl, by decide +kernel, rfl, by decide +kernel, by decide +kernel⟩
theorem ok__law_cell {f : Addr} {fd : FuncData} (F : Fun K "_law_cell" "_law_cell" s__law_cell f fd) (T : Txt K mg ec)  : FnOk P w K mg base (L2N.CX P w) 1 f fd ["script", "k"] (spP K ec 2 g__law_cell) :=
  by
  rw [g__law_cell_eq]
  exact fn_pure F sc__law_cell rfl fun cdv A outer s G0 H E i0 hr => by
    have hu := hr.units; have hu1 := hu_of hr; have hu0 := hr.units0; have hu65 := units65 hr; have hu70 := units70 hr
    exact (ss_cons (ss_if (st_eq hu (se_var 0) (se_new (sn_lst sa_nil))) (ss_one (ss_ret (se_mul (se_var 1) se_int))) ss_nil) (ss_one (ss_ret (se_add (se_at (se_var 0) (se_mod (se_var 1) (se_len rfl T.len (sa_cons (se_var 0) sa_nil)))) (se_mul (se_div (se_var 1) (se_len rfl T.len (sa_cons (se_var 0) sa_nil))) se_int)))))
theorem sc__law_plus : FnScope N__law_plus ["one", "other"] (defScope s__law_plus) := ⟨rfl, rfl, rfl, by decide +kernel, rfl, by decide +kernel, by decide +kernel⟩
theorem ok__law_plus {f : Addr} {fd : FuncData} (F : Fun K "_law_plus" "_law_plus" s__law_plus f fd) (T : Txt K mg ec) (C__law_made : Cal P w K mg base ec "_law_made" 2 1 g__law_made) : FnOk P w K mg base (L2N.CX P w) 2 f fd ["one", "other"] (spP K ec 2 g__law_plus) :=
  by
  rw [g__law_plus_eq]
  exact fn_pure F sc__law_plus rfl fun cdv A outer s G0 H E i0 hr => by
    have hu := hr.units; have hu1 := hu_of hr; have hu0 := hr.units0; have hu65 := units65 hr; have hu70 := units70 hr
    exact (ss_one (ss_ret (se_call C__law_made tk_cx (hr.mono (by decide)) rfl (sa_cons (se_add (se_mul (se_at (se_var 0) se_int) (se_at (se_var 1) se_int)) (se_mul (se_at (se_var 1) se_int) (se_at (se_var 0) se_int))) (sa_cons (se_mul (se_at (se_var 0) se_int) (se_at (se_var 1) se_int)) sa_nil)))))
theorem sc_common : FnScope N_common ["one", "other"] (defScope s_common) := ⟨rfl, rfl, rfl, by decide +kernel, rfl, by decide +kernel, by decide +kernel⟩
theorem ok_common {f : Addr} {fd : FuncData} (F : Fun K "common" "common" s_common f fd) (T : Txt K mg ec)  : FnOk P w K mg base (L2N.CX P w) 1 f fd ["one", "other"] (spP K ec 2 g_common) :=
  by
  rw [g_common_eq]
  exact fn_pure F sc_common rfl fun cdv A outer s G0 H E i0 hr => by
    have hu := hr.units; have hu1 := hu_of hr; have hu0 := hr.units0; have hu65 := units65 hr; have hu70 := units70 hr
    exact (ss_cons (ss_while fuelW hp_cx (st_gt (se_var 1) se_int) (ss_one (ss_par .P (i := 0) (j := 1) rfl sc_common.nd (sa_cons (se_var 1) (sa_cons (se_mod (se_var 0) (se_var 1)) sa_nil))))) (ss_one (ss_ret (se_var 0))))
theorem sc_fraction : FnScope N_fraction ["top", "under"] (defScope s_fraction) := ⟨rfl, rfl, rfl, by decide +kernel, rfl, by decide +kernel, by decide +kernel⟩
theorem ok_fraction {f : Addr} {fd : FuncData} (F : Fun K "fraction" "fraction" s_fraction f fd) (T : Txt K mg ec) (C_common : Cal P w K mg base ec "common" 2 1 g_common) : FnOk P w K mg base (L2N.CX P w) 2 f fd ["top", "under"] (spP K ec 2 g_fraction) :=
  by
  rw [g_fraction_eq]
  exact fn_pure F sc_fraction rfl fun cdv A outer s G0 H E i0 hr => by
    have hu := hr.units; have hu1 := hu_of hr; have hu0 := hr.units0; have hu65 := units65 hr; have hu70 := units70 hr
    exact (ss_cons (ss_set .P (i := 2) sc_fraction.nd (se_call C_common tk_cx (hr.mono (by decide)) rfl (sa_cons (se_abs rfl T.abs (sa_cons (se_var 0) sa_nil)) (sa_cons (se_var 1) sa_nil)))) (ss_one (ss_ret (se_tup (sa_cons (se_div (se_var 0) (se_var 2)) (sa_cons (se_div (se_var 1) (se_var 2)) sa_nil))))))
theorem sc_plus : FnScope N_plus ["one", "other"] (defScope s_plus) := ⟨rfl, rfl, rfl, by decide +kernel, rfl, by decide +kernel, by decide +kernel⟩
theorem ok_plus {f : Addr} {fd : FuncData} (F : Fun K "plus" "plus" s_plus f fd) (T : Txt K mg ec) (C_fraction : Cal P w K mg base ec "fraction" 2 2 g_fraction) : FnOk P w K mg base (L2N.CX P w) 3 f fd ["one", "other"] (spP K ec 2 g_plus) :=
  by
  rw [g_plus_eq]
  exact fn_pure F sc_plus rfl fun cdv A outer s G0 H E i0 hr => by
    have hu := hr.units; have hu1 := hu_of hr; have hu0 := hr.units0; have hu65 := units65 hr; have hu70 := units70 hr
    exact (ss_one (ss_ret (se_call C_fraction tk_cx (hr.mono (by decide)) rfl (sa_cons (se_add (se_mul (se_at (se_var 0) se_int) (se_at (se_var 1) se_int)) (se_mul (se_at (se_var 1) se_int) (se_at (se_var 0) se_int))) (sa_cons (se_mul (se_at (se_var 0) se_int) (se_at (se_var 1) se_int)) sa_nil)))))
theorem sc_total : FnScope N_total ["some"] (defScope s_total) := ⟨rfl, rfl, rfl, by decide +kernel, rfl, by decide +kernel, by decide +kernel⟩
theorem ok_total {f : Addr} {fd : FuncData} (F : Fun K "total" "total" s_total f fd) (T : Txt K mg ec) (C_plus : Cal P w K mg base ec "plus" 2 3 g_plus) : FnOk P w K mg base (L2N.CX P w) 4 f fd ["some"] (spP K ec 1 g_total) :=
  by
  rw [g_total_eq]
  exact fn_pure F sc_total rfl fun cdv A outer s G0 H E i0 hr => by
    have hu := hr.units; have hu1 := hu_of hr; have hu0 := hr.units0; have hu65 := units65 hr; have hu70 := units70 hr
    exact (ss_cons (ss_set .P (i := 1) sc_total.nd (se_glob T.c_NOUGHT rfl)) (ss_cons (ss_for hp_cx rfl (si_seq (se_var 0)) (sg_name (i := 2) sc_total.nd) (ss_one (ss_set .P (i := 1) sc_total.nd (se_call C_plus tk_cx (hr.mono (by decide)) rfl (sa_cons (se_var 1) (sa_cons (se_var 2) sa_nil)))))) (ss_one (ss_ret (se_var 1)))))
theorem sc_is_fraction : FnScope N_is_fraction ["thing"] (defScope s_is_fraction) := ⟨rfl, rfl, rfl, by decide +kernel, rfl, by decide +kernel, by decide +kernel⟩
theorem ok_is_fraction {f : Addr} {fd : FuncData} (F : Fun K "is_fraction" "is_fraction" s_is_fraction f fd) (T : Txt K mg ec) (C_common : Cal P w K mg base ec "common" 2 1 g_common) : FnOk P w K mg base (L2N.CX P w) 2 f fd ["thing"] (spP K ec 1 g_is_fraction) :=
  by
  rw [g_is_fraction_eq]
  exact fn_pure F sc_is_fraction rfl fun cdv A outer s G0 H E i0 hr => by
    have hu := hr.units; have hu1 := hu_of hr; have hu0 := hr.units0; have hu65 := units65 hr; have hu70 := units70 hr
    exact (ss_cons (ss_if (PW.pt (sw_or (st_not (st_val (se_isi rfl T.isinstance (se_var 0) rfl T.tuple (by decide +kernel)))) (sw_or1 (st_ne hu (se_len rfl T.len (sa_cons (se_var 0) sa_nil)) se_int)))) (ss_one (ss_ret se_bl)) ss_nil) (ss_cons (ss_if (st_not (st_val (se_all rfl rfl T.all (sa_cons (se_new (sn_lc (own := [("part", 1)]) tg_name rfl rfl sc_is_fraction.nd (si_seq (se_var 0)) (blkOk_by (N := N_is_fraction) (sc := defScope s_is_fraction) (by decide +kernel)) (fun _ _ _ _ _ => (pg_name (i := 1) sc_is_fraction.nd rfl (by first | exact Or.inl rfl | exact Or.inr rfl))) (fun _ _ _ _ _ => sts_nil) (fun _ _ _ _ _ => (se_and (se_isi rfl T.isinstance (se_var 1) rfl T.int (by decide +kernel)) (se_one (se_not (se_isi rfl T.isinstance (se_var 1) rfl T.bool (by decide +kernel)))))))) sa_nil)))) (ss_one (ss_ret se_bl)) ss_nil) (ss_one (ss_ret (se_and (se_gt (se_at (se_var 0) se_int) se_int) (se_one (se_eq hu (se_call C_common tk_cx (hr.mono (by decide)) rfl (sa_cons (se_abs rfl T.abs (sa_cons (se_at (se_var 0) se_int) sa_nil)) (sa_cons (se_at (se_var 0) se_int) sa_nil))) se_int)))))))
theorem sc_is_row : FnScope N_is_row ["row", "many"] (defScope s_is_row) := ⟨rfl, rfl, rfl, by decide +kernel, rfl, by decide +kernel, by decide +kernel⟩
theorem ok_is_row {f : Addr} {fd : FuncData} (F : Fun K "is_row" "is_row" s_is_row f fd) (T : Txt K mg ec) (C_is_fraction : Cal P w K mg base ec "is_fraction" 1 2 g_is_fraction) (C_total : Cal P w K mg base ec "total" 1 4 g_total) : FnOk P w K mg base (L2N.CX P w) 5 f fd ["row", "many"] (spP K ec 2 g_is_row) :=
  by
  rw [g_is_row_eq]
  exact fn_pure F sc_is_row rfl fun cdv A outer s G0 H E i0 hr => by
    have hu := hr.units; have hu1 := hu_of hr; have hu0 := hr.units0; have hu65 := units65 hr; have hu70 := units70 hr
    exact (ss_cons (ss_if (PW.pt (sw_or (st_ne hu (se_len rfl T.len (sa_cons (se_var 0) sa_nil)) (se_var 1)) (sw_or1 (st_not (st_val (se_all rfl rfl T.all (sa_cons (se_new (sn_lc (own := [("one", 2)]) tg_name rfl rfl sc_is_row.nd (si_seq (se_var 0)) (blkOk_by (N := N_is_row) (sc := defScope s_is_row) (by decide +kernel)) (fun _ _ _ _ _ => (pg_name (i := 2) sc_is_row.nd rfl (by first | exact Or.inl rfl | exact Or.inr rfl))) (fun _ _ _ _ _ => sts_nil) (fun _ _ _ _ _ => (se_and (se_call C_is_fraction takes0N (hr.mono (by decide)) rfl (sa_cons (se_var 2) sa_nil)) (se_one (se_ge (se_at (se_var 2) se_int) se_int)))))) sa_nil))))))) (ss_one (ss_ret se_bl)) ss_nil) (ss_one (ss_ret (se_eq hu (se_call C_total tk_cx (hr.mono (by decide)) rfl (sa_cons (se_var 0) sa_nil)) (se_glob T.c_ONE rfl)))))
theorem sc_need_table : FnScope N_need_table ["thing"] (defScope s_need_table) := ⟨rfl, rfl, rfl, by decide +kernel, rfl, by decide +kernel, by decide +kernel⟩
theorem ok_need_table {f : Addr} {fd : FuncData} (F : Fun K "need_table" "need_table" s_need_table f fd) (T : Txt K mg ec) (C_is_row : Cal P w K mg base ec "is_row" 2 5 g_is_row) : FnOk P w K mg base (L2N.CX P w) 6 f fd ["thing"] (spP K ec 1 g_need_table) :=
  by
  rw [g_need_table_eq]
  exact fn_pure F sc_need_table rfl fun cdv A outer s G0 H E i0 hr => by
    have hu := hr.units; have hu1 := hu_of hr; have hu0 := hr.units0; have hu65 := units65 hr; have hu70 := units70 hr
    exact (ss_cons (ss_asgT .P (se_var 0) (sg_tup rfl (sn_cons (i := 1) sc_need_table.nd (sn_cons (i := 2) sc_need_table.nd sn_nil)))) (ss_cons (ss_if (PW.pt (sw_or (st_eq hu (se_var 1) (se_new (sn_lst sa_nil))) (sw_or (st_eq hu (se_var 2) (se_new (sn_lst sa_nil))) (sw_or1 (st_not (st_val (se_all rfl rfl T.all (sa_cons (se_new (sn_lc (own := [("row", 3)]) tg_name rfl rfl sc_need_table.nd (si_seq (se_var 2)) (blkOk_by (N := N_need_table) (sc := defScope s_need_table) (by decide +kernel)) (fun _ _ _ _ _ => (pg_name (i := 3) sc_need_table.nd rfl (by first | exact Or.inl rfl | exact Or.inr rfl))) (fun _ _ _ _ _ => sts_nil) (fun _ _ _ _ _ => (se_call C_is_row takes0N (hr.mono (by decide)) rfl (sa_cons (se_var 3) (sa_cons (se_len rfl T.len (sa_cons (se_var 1) sa_nil)) sa_nil)))))) sa_nil)))))))) (ss_one (ss_raise T.x_BadTable tk_cx rfl)) ss_nil) (ss_one (ss_if (st_not (st_val (se_all rfl rfl T.all (sa_cons (se_new (sn_lc (own := [("one", 4), ("other", 5)]) tg_tuple rfl rfl sc_need_table.nd (si_zip rfl T.zip (sa_cons (se_var 1) (sa_cons (se_sl (se_var 1) (so_some se_int) so_none) sa_nil))) (blkOk_by (N := N_need_table) (sc := defScope s_need_table) (by decide +kernel)) (fun _ _ _ _ _ => (pg_tup (n := 2) rfl (sn_cons (i := 4) sc_need_table.nd (sn_cons (i := 5) sc_need_table.nd sn_nil)))) (fun _ _ _ _ _ => sts_nil) (fun _ _ _ _ _ => (se_ltN hu65 (se_var 4) (se_var 5))))) sa_nil)))) (ss_one (ss_raise T.x_BadTable tk_cx rfl)) ss_nil))))
theorem sc_need_plain : FnScope N_need_plain ["thing"] (defScope s_need_plain) := ⟨rfl, rfl, rfl, by decide +kernel, rfl, by decide +kernel, by decide +kernel⟩
theorem ok_need_plain {f : Addr} {fd : FuncData} (F : Fun K "need_plain" "need_plain" s_need_plain f fd) (T : Txt K mg ec) (C_need_table : Cal P w K mg base ec "need_table" 1 6 g_need_table) : FnOk P w K mg base (L2N.CX P w) 7 f fd ["thing"] (spP K ec 1 g_need_plain) :=
  by
  rw [g_need_plain_eq]
  exact fn_pure F sc_need_plain rfl fun cdv A outer s G0 H E i0 hr => by
    have hu := hr.units; have hu1 := hu_of hr; have hu0 := hr.units0; have hu65 := units65 hr; have hu70 := units70 hr
    exact (ss_cons (ss_expr (se_call C_need_table tk_cx (hr.mono (by decide)) rfl (sa_cons (se_var 0) sa_nil))) (ss_one (ss_if (st_not (st_val (se_all rfl rfl T.all (sa_cons (se_new (sn_lc (own := [("row", 1)]) tg_name rfl rfl sc_need_plain.nd (si_seq (se_at (se_var 0) se_int)) (blkOk_by (N := N_need_plain) (sc := defScope s_need_plain) (by decide +kernel)) (fun _ _ _ _ _ => (pg_name (i := 1) sc_need_plain.nd rfl (by first | exact Or.inl rfl | exact Or.inr rfl))) (fun _ _ _ _ _ => sts_nil) (fun _ _ _ _ _ => (se_all rfl rfl T.all (sa_cons (se_new (sn_lc (own := [("one", 2)]) tg_name rfl rfl sc_need_plain.nd (si_seq (se_var 1)) (blkOk_by (by kernel_rfl)) (fun _ _ _ _ _ => (pg_name (i := 2) sc_need_plain.nd rfl (by first | exact Or.inl rfl | exact Or.inr rfl))) (fun _ _ _ _ _ => sts_nil) (fun _ _ _ _ _ => (se_inT hu65 (se_var 2) (se_tup (sa_cons (se_glob T.c_NOUGHT rfl) (sa_cons (se_glob T.c_ONE rfl) sa_nil))))))) sa_nil))))) sa_nil)))) (ss_one (ss_raise T.x_NotPlain tk_cx rfl)) ss_nil)))
theorem sc_need_weights : FnScope N_need_weights ["weights", "many"] (defScope s_need_weights) := ⟨rfl, rfl, rfl, by decide +kernel, rfl, by decide +kernel, by decide +kernel⟩
theorem ok_need_weights {f : Addr} {fd : FuncData} (F : Fun K "need_weights" "need_weights" s_need_weights f fd) (T : Txt K mg ec)  : FnOk P w K mg base (L2N.CX P w) 1 f fd ["weights", "many"] (spP K ec 2 g_need_weights) :=
  by
  rw [g_need_weights_eq]
  exact fn_pure F sc_need_weights rfl fun cdv A outer s G0 H E i0 hr => by
    have hu := hr.units; have hu1 := hu_of hr; have hu0 := hr.units0; have hu65 := units65 hr; have hu70 := units70 hr
    exact (ss_one (ss_if (PW.pt (sw_or (st_ne hu (se_len rfl T.len (sa_cons (se_var 0) sa_nil)) (se_var 1)) (sw_or (st_not (st_val (se_all rfl rfl T.all (sa_cons (se_new (sn_lc (own := [("one", 2)]) tg_name rfl rfl sc_need_weights.nd (si_seq (se_var 0)) (blkOk_by (N := N_need_weights) (sc := defScope s_need_weights) (by decide +kernel)) (fun _ _ _ _ _ => (pg_name (i := 2) sc_need_weights.nd rfl (by first | exact Or.inl rfl | exact Or.inr rfl))) (fun _ _ _ _ _ => sts_nil) (fun _ _ _ _ _ => (se_ge (se_var 2) se_int)))) sa_nil)))) (sw_or1 (st_eq hu (se_sum rfl rfl T.sum (sa_cons (se_var 0) sa_nil)) se_int))))) (ss_one (ss_raise T.x_BadWeights tk_cx rfl)) ss_nil))
theorem sc_places : FnScope N_places ["thing"] (defScope s_places) := ⟨rfl, rfl, rfl, by decide +kernel, rfl, by decide +kernel, by decide +kernel⟩
theorem ok_places {f : Addr} {fd : FuncData} (F : Fun K "places" "places" s_places f fd) (T : Txt K mg ec)  : FnOk P w K mg base (L2N.CX P w) 1 f fd ["thing"] (spP K ec 1 g_places) :=
  by
  rw [g_places_eq]
  exact fn_pure F sc_places rfl fun cdv A outer s G0 H E i0 hr => by
    have hu := hr.units; have hu1 := hu_of hr; have hu0 := hr.units0; have hu65 := units65 hr; have hu70 := units70 hr
    exact (ss_one (ss_ret (se_new (sn_lc (own := [("row", 1)]) tg_name rfl rfl sc_places.nd (si_seq (se_at (se_var 0) se_int)) (blkOk_by (N := N_places) (sc := defScope s_places) (by decide +kernel)) (fun _ _ _ _ _ => (pg_name (i := 1) sc_places.nd rfl (by first | exact Or.inl rfl | exact Or.inr rfl))) (fun _ _ _ _ _ => sts_nil) (fun _ _ _ _ _ => (se_index hu65 (se_var 1) (se_glob T.c_ONE rfl)))))))
theorem sc_classes : FnScope N_classes ["thing"] (defScope s_classes) := ⟨rfl, rfl, rfl, by decide +kernel, rfl, by decide +kernel, by decide +kernel⟩
theorem ok_classes {f : Addr} {fd : FuncData} (F : Fun K "classes" "classes" s_classes f fd) (T : Txt K mg ec) (C_need_plain : Cal P w K mg base ec "need_plain" 1 7 g_need_plain) (C_places : Cal P w K mg base ec "places" 1 1 g_places) : FnOk P w K mg base (L2N.CX P w) 8 f fd ["thing"] (spF K ec 1 g_classes) :=
  by
  rw [g_classes_eq]
  exact fn_fresh F sc_classes rfl fun cdv A outer s G0 H E i0 hr => by
    have hu := hr.units; have hu1 := hu_of hr; have hu0 := hr.units0; have hu65 := units65 hr; have hu70 := units70 hr
    exact (sx_consF (ss_expr (se_call C_need_plain tk_cx (hr.mono (by decide)) rfl (sa_cons (se_var 0) sa_nil))) (sx_consF (ss_set .P (i := 1) sc_classes.nd (se_call C_places tk_cx (hr.mono (by decide)) rfl (sa_cons (se_var 0) sa_nil))) (sx_one (sx_ret (sf_lc (own := [("place", 2)]) tg_name rfl rfl sc_classes.nd (si_seq (se_sortSet rfl rfl T.sorted rfl T.set (se_var 1))) (blkOk_by (N := N_classes) (sc := defScope s_classes) (by decide +kernel)) (fun _ _ _ _ _ => (pg_name (i := 2) sc_classes.nd rfl (by first | exact Or.inl rfl | exact Or.inr rfl))) (fun _ _ _ _ _ => sts_nil) (fun _ _ _ _ _ => (sf_lc (own := [("number", 3), ("one", 4)]) tg_tuple rfl rfl sc_classes.nd (si_enum rfl T.enumerate (sa_cons (se_var 1) sa_nil)) (blkOk_by (by kernel_rfl)) (fun _ _ _ _ _ => (pg_tup (n := 2) rfl (sn_cons (i := 3) sc_classes.nd (sn_cons (i := 4) sc_classes.nd sn_nil)))) (fun _ _ _ _ _ => (sts_one (st_eq hu (se_var 4) (se_var 2)))) (fun _ _ _ _ _ => (sf_atom (se_var 3))))))))))
theorem sc_order_of : FnScope N_order_of ["heights"] (defScope s_order_of) := ⟨rfl, rfl, rfl, by decide +kernel, rfl, by decide +kernel, by decide +kernel⟩
theorem ok_order_of {f : Addr} {fd : FuncData} (F : Fun K "order_of" "order_of" s_order_of f fd) (T : Txt K mg ec)  {c P0 : Addr} (TB : LamX.TabB base mg c P0) (hcode : fd.code = .ref c) (hP : P0 ∈ tabs) : FnOk P w K mg base (L2N.CX P w) 1 f fd ["heights"] (spP K ec 1 g_order_of) :=
  by
  rw [g_order_of_eq]
  have hnm : ∀ i j, nmAt i j = "order_of" ++ ".<locals>." ++ "<lambda>" := fun i j => by unfold nmAt; rw [shut_eq]; decide +kernel
  exact fn_pureC F sc_order_of rfl fun A outer s G0 H E i0 hr => by
    have hu := hr.units; have hu1 := hu_of hr; have hu0 := hr.units0; have hu65 := units65 hr; have hu70 := units70 hr
    exact (ss_one (ss_ret (se_sortK (j := 0) hu70 hr.depth rfl T.sorted TB hcode hP (hnm _ _) rfl rfl rfl (sa_cons (se_listRg rfl rfl T.list rfl T.range (se_len rfl T.len (sa_cons (se_var 0) sa_nil))) sa_nil))))
theorem sc_groups : FnScope N_groups ["thing", "weights", "bound"] (defScope s_groups) := ⟨rfl, rfl, rfl, by decide +kernel, rfl, by decide +kernel, by decide +kernel⟩
theorem ok_groups {f : Addr} {fd : FuncData} (F : Fun K "groups" "groups" s_groups f fd) (T : Txt K mg ec) (C_classes : Cal P w K mg base ec "classes" 1 8 g_classes) (C_need_plain : Cal P w K mg base ec "need_plain" 1 7 g_need_plain) (C_need_weights : Cal P w K mg base ec "need_weights" 2 1 g_need_weights) (C_order_of : Cal P w K mg base ec "order_of" 1 1 g_order_of) : FnOk P w K mg base (L2N.CX P w) 9 f fd ["thing", "weights", "bound"] (spP K ec 3 g_groups) :=
  by
  rw [g_groups_eq]
  exact fn_pure F sc_groups rfl fun cdv A outer s G0 H E i0 hr => by
    have hu := hr.units; have hu1 := hu_of hr; have hu0 := hr.units0; have hu65 := units65 hr; have hu70 := units70 hr
    exact (ss_cons (ss_expr (se_call C_need_plain tk_cx (hr.mono (by decide)) rfl (sa_cons (se_var 0) sa_nil))) (ss_cons (ss_expr (se_call C_need_weights tk_cx (hr.mono (by decide)) rfl (sa_cons (se_var 1) (sa_cons (se_len rfl T.len (sa_cons (se_at (se_var 0) se_int) sa_nil)) sa_nil)))) (ss_cons (ss_set .P (i := 3) sc_groups.nd (se_call C_classes tk_cx (hr.mono (by decide)) rfl (sa_cons (se_var 0) sa_nil))) (ss_cons (ss_ownLc (i := 4) (own := [("part", 8)]) tg_name rfl rfl sc_groups.nd (si_seq (se_var 3)) (blkOk_by (N := N_groups) (sc := defScope s_groups) (by decide +kernel)) (fun _ _ _ _ _ => (pg_name (i := 8) sc_groups.nd rfl (by first | exact Or.inl rfl | exact Or.inr rfl))) (fun _ _ _ _ _ => sts_nil) (fun _ _ _ _ _ => (se_maxL rfl rfl T.max (sa_cons (se_new (sn_lc (own := [("number", 9)]) tg_name rfl rfl sc_groups.nd (si_seq (se_var 8)) (blkOk_by (by kernel_rfl)) (fun _ _ _ _ _ => (pg_name (i := 9) sc_groups.nd rfl (by first | exact Or.inl rfl | exact Or.inr rfl))) (fun _ _ _ _ _ => sts_nil) (fun _ _ _ _ _ => (se_at (se_var 1) (se_var 9))))) sa_nil)))) (ss_frz 4 (ss_cons (ss_set .P (i := 5) sc_groups.nd (se_call C_order_of tk_cx (hr.mono (by decide)) rfl (sa_cons (se_var 4) sa_nil))) (ss_cons (ss_set .P (i := 6) sc_groups.nd (se_sum rfl rfl T.sum (sa_cons (se_var 4) sa_nil))) (ss_cons (ss_set .P (i := 7) sc_groups.nd se_int) (ss_cons (ss_while 20 hp_cx (st_gt (se_mul (se_var 6) (se_at (se_var 2) se_int)) (se_mul (se_at (se_var 2) se_int) (se_sum rfl rfl T.sum (sa_cons (se_var 1) sa_nil)))) (ss_cons (ss_if (st_eq hu (se_var 7) (se_len rfl T.len (sa_cons (se_var 5) sa_nil))) (ss_one (ss_ret se_non)) ss_nil) (ss_cons (ss_set .P (i := 6) sc_groups.nd (se_sub (se_var 6) (se_at (se_var 4) (se_at (se_var 5) (se_var 7))))) (ss_one (ss_set .P (i := 7) sc_groups.nd (se_add (se_var 7) se_int)))))) (ss_one (ss_ret (se_sortD hu70 rfl T.sorted (sa_cons (se_add (se_new (sn_lst (sa_cons (se_sortD hu70 rfl T.sorted (sa_cons (se_sl (se_var 5) so_none (so_some (se_var 7))) sa_nil)) sa_nil))) (se_new (sn_lc (own := [("at", 10)]) tg_name rfl rfl sc_groups.nd (si_seq (se_sl (se_var 5) (so_some (se_var 7)) so_none)) (blkOk_by (N := N_groups) (sc := defScope s_groups) (by decide +kernel)) (fun _ _ _ _ _ => (pg_name (i := 10) sc_groups.nd rfl (by first | exact Or.inl rfl | exact Or.inr rfl))) (fun _ _ _ _ _ => sts_nil) (fun _ _ _ _ _ => (se_new (sn_lst (sa_cons (se_var 10) sa_nil))))))) sa_nil)))))))))))))
theorem sc__law_told : FnScope N__law_told ["thing", "weights", "bound"] (defScope s__law_told) := ⟨rfl, rfl, rfl, by decide +kernel, rfl, by decide +kernel, by decide +kernel⟩
theorem ok__law_told {f : Addr} {fd : FuncData} (F : Fun K "_law_told" "_law_told" s__law_told f fd) (T : Txt K mg ec) (C__law_word : CalW P w K mg base ec "_law_word" 1 wdL) (C_groups : Cal P w K mg base ec "groups" 3 9 g_groups) : FnOk P w K mg base (L2N.CX P w) 10 f fd ["thing", "weights", "bound"] (spP K ec 3 g__law_told) :=
  by
  rw [g__law_told_eq]
  exact fn_pure F sc__law_told rfl fun cdv A outer s G0 H E i0 hr => by
    have hu := hr.units; have hu1 := hu_of hr; have hu0 := hr.units0; have hu65 := units65 hr; have hu70 := units70 hr
    exact (ss_one (ss_try (i := 3) i0 C__law_word (hr.mono (by decide)) tk_cx rfl rfl sc__law_told.nd rfl rfl rfl rfl T.m_TellError T.xm (fun W2 pn2 xx2 tkT hpT => (ss_one (ss_ret (se_call C_groups tkT (hr.mono (by decide)) rfl (sa_cons (se_var 0) (sa_cons (se_var 1) (sa_cons (se_var 2) sa_nil))))))) (Or.inl rfl)))
theorem sc__law_classes : FnScope N__law_classes ["thing"] (defScope s__law_classes) := ⟨rfl, rfl, rfl, by decide +kernel, rfl, by decide +kernel, by decide +kernel⟩
theorem ok__law_classes {f : Addr} {fd : FuncData} (F : Fun K "_law_classes" "_law_classes" s__law_classes f fd) (T : Txt K mg ec)  : FnOk P w K mg base (L2N.CX P w) 1 f fd ["thing"] (spP K ec 1 g__law_classes) :=
  by
  rw [g__law_classes_eq]
  exact fn_pure F sc__law_classes rfl fun cdv A outer s G0 H E i0 hr => by
    have hu := hr.units; have hu1 := hu_of hr; have hu0 := hr.units0; have hu65 := units65 hr; have hu70 := units70 hr
    exact (ss_cons (ss_own (i := 1) sc__law_classes.nd (sn_lst sa_nil)) (ss_cons (ss_for hp_cx rfl (si_range1 rfl T.range (sa_cons (se_len rfl T.len (sa_cons (se_at (se_var 0) se_int) sa_nil)) sa_nil)) (sg_name (i := 2) sc__law_classes.nd) (ss_cons (ss_ownLc (i := 3) (own := [("j", 4), ("row", 5)]) tg_tuple rfl rfl sc__law_classes.nd (si_enum rfl T.enumerate (sa_cons (se_at (se_var 0) se_int) sa_nil)) (blkOk_by (N := N__law_classes) (sc := defScope s__law_classes) (by decide +kernel)) (fun _ _ _ _ _ => (pg_tup (n := 2) rfl (sn_cons (i := 4) sc__law_classes.nd (sn_cons (i := 5) sc__law_classes.nd sn_nil)))) (fun _ _ _ _ _ => (sts_one (st_eq hu (se_at (se_var 5) (se_var 2)) (se_tup (sa_cons se_int (sa_cons se_int sa_nil)))))) (fun _ _ _ _ _ => (se_var 4))) (ss_frz 3 (ss_one (ss_if (st_ne hu (se_var 3) (se_new (sn_lst sa_nil))) (ss_one (ss_app .P (i := 1) (se_var 3))) ss_nil))))) (ss_one (ss_ret (se_var 1)))))
theorem sc__law_most_groups : FnScope N__law_most_groups ["heights", "bound", "whole"] (defScope s__law_most_groups) := ⟨rfl, rfl, rfl, by decide +kernel, rfl, by decide +kernel, by decide +kernel⟩
theorem ok__law_most_groups {f : Addr} {fd : FuncData} (F : Fun K "_law_most_groups" "_law_most_groups" s__law_most_groups f fd) (T : Txt K mg ec)  : FnOk P w K mg base (L2N.CX P w) 1 f fd ["heights", "bound", "whole"] (spP K ec 3 g__law_most_groups) :=
  by
  rw [g__law_most_groups_eq]
  exact fn_pure F sc__law_most_groups rfl fun cdv A outer s G0 H E i0 hr => by
    have hu := hr.units; have hu1 := hu_of hr; have hu0 := hr.units0; have hu65 := units65 hr; have hu70 := units70 hr
    exact (ss_cons (ss_set .P (i := 3) sc__law_most_groups.nd (se_sortD hu70 rfl T.sorted (sa_cons (se_var 0) sa_nil))) (ss_cons (ss_set .P (i := 4) sc__law_most_groups.nd se_int) (ss_cons (ss_for hp_cx rfl (si_range2 rfl T.range (sa_cons se_int (sa_cons (se_add (se_len rfl T.len (sa_cons (se_var 3) sa_nil)) se_int) sa_nil))) (sg_name (i := 5) sc__law_most_groups.nd) (ss_one (ss_if (st_le (se_mul (se_add (se_at (se_var 3) (se_neg se_int)) (se_sum rfl rfl T.sum (sa_cons (se_sl (se_var 3) so_none (so_some (se_sub (se_var 5) se_int))) sa_nil))) (se_at (se_var 1) se_int)) (se_mul (se_at (se_var 1) se_int) (se_var 2))) (ss_one (ss_set .P (i := 4) sc__law_most_groups.nd (se_var 5))) ss_nil))) (ss_one (ss_ret (se_var 4))))))
theorem sc_group_of : FnScope N_group_of ["thing", "found"] (defScope s_group_of) := ⟨rfl, rfl, rfl, by decide +kernel, rfl, by decide +kernel, by decide +kernel⟩
theorem ok_group_of {f : Addr} {fd : FuncData} (F : Fun K "group_of" "group_of" s_group_of f fd) (T : Txt K mg ec) (C_classes : Cal P w K mg base ec "classes" 1 8 g_classes) : FnOk P w K mg base (L2N.CX P w) 9 f fd ["thing", "found"] (spP K ec 2 g_group_of) :=
  by
  rw [g_group_of_eq]
  exact fn_pure F sc_group_of rfl fun cdv A outer s G0 H E i0 hr => by
    have hu := hr.units; have hu1 := hu_of hr; have hu0 := hr.units0; have hu65 := units65 hr; have hu70 := units70 hr
    exact (ss_cons (ss_own (i := 2) sc_group_of.nd sn_dnew) (ss_cons (ss_for hp_cx rfl (si_enum rfl T.enumerate (sa_cons (se_call C_classes tk_cx (hr.mono (by decide)) rfl (sa_cons (se_var 0) sa_nil)) sa_nil)) (sg_tup rfl (sn_cons (i := 3) sc_group_of.nd (sn_cons (i := 4) sc_group_of.nd sn_nil))) (ss_one (ss_for hp_cx rfl (si_enum rfl T.enumerate (sa_cons (se_var 1) sa_nil)) (sg_tup rfl (sn_cons (i := 5) sc_group_of.nd (sn_cons (i := 6) sc_group_of.nd sn_nil))) (ss_one (ss_if (st_in hu65 (se_var 3) (se_var 6)) (ss_one (ss_for hp_cx rfl (si_seq (se_var 4)) (sg_name (i := 7) sc_group_of.nd) (ss_one (ss_dset .P .P (i := 2) hu1 (se_var 5) (se_var 7))))) ss_nil))))) (ss_frz 2 (ss_one (ss_ret (se_new (sn_lc (own := [("row", 7)]) tg_name rfl rfl sc_group_of.nd (si_range1 rfl T.range (sa_cons (se_len rfl T.len (sa_cons (se_at (se_var 0) se_int) sa_nil)) sa_nil)) (blkOk_by (N := N_group_of) (sc := defScope s_group_of) (by decide +kernel)) (fun _ _ _ _ _ => (pg_name (i := 7) sc_group_of.nd rfl (by first | exact Or.inl rfl | exact Or.inr rfl))) (fun _ _ _ _ _ => sts_nil) (fun _ _ _ _ _ => (se_dat hu1 (se_var 2) (se_var 7))))))))))
theorem sc_grouped : FnScope N_grouped ["thing", "found"] (defScope s_grouped) := ⟨rfl, rfl, rfl, by decide +kernel, rfl, by decide +kernel, by decide +kernel⟩
theorem ok_grouped {f : Addr} {fd : FuncData} (F : Fun K "grouped" "grouped" s_grouped f fd) (T : Txt K mg ec) (C_group_of : Cal P w K mg base ec "group_of" 2 9 g_group_of) (C_need_plain : Cal P w K mg base ec "need_plain" 1 7 g_need_plain) : FnOk P w K mg base (L2N.CX P w) 10 f fd ["thing", "found"] (spP K ec 2 g_grouped) :=
  by
  rw [g_grouped_eq]
  exact fn_pure F sc_grouped rfl fun cdv A outer s G0 H E i0 hr => by
    have hu := hr.units; have hu1 := hu_of hr; have hu0 := hr.units0; have hu65 := units65 hr; have hu70 := units70 hr
    exact (ss_cons (ss_expr (se_call C_need_plain tk_cx (hr.mono (by decide)) rfl (sa_cons (se_var 0) sa_nil))) (ss_cons (ss_ownLc (i := 2) (own := [("number", 3)]) tg_name rfl rfl sc_grouped.nd (si_seq (se_call C_group_of tk_cx (hr.mono (by decide)) rfl (sa_cons (se_var 0) (sa_cons (se_var 1) sa_nil)))) (blkOk_by (N := N_grouped) (sc := defScope s_grouped) (by decide +kernel)) (fun _ _ _ _ _ => (pg_name (i := 3) sc_grouped.nd rfl (by first | exact Or.inl rfl | exact Or.inr rfl))) (fun _ _ _ _ _ => sts_nil) (fun _ _ _ _ _ => (se_new (sn_lc (own := [("place", 4)]) tg_name rfl rfl sc_grouped.nd (si_range1 rfl T.range (sa_cons (se_len rfl T.len (sa_cons (se_var 1) sa_nil)) sa_nil)) (blkOk_by (by kernel_rfl)) (fun _ _ _ _ _ => (pg_name (i := 4) sc_grouped.nd rfl (by first | exact Or.inl rfl | exact Or.inr rfl))) (fun _ _ _ _ _ => sts_nil) (fun _ _ _ _ _ => (se_if (st_eq hu (se_var 4) (se_var 3)) (se_glob T.c_ONE rfl) (se_glob T.c_NOUGHT rfl))))))) (ss_frz 2 (ss_one (ss_ret (se_tup (sa_cons (se_new (sn_lc (own := [("place", 4)]) tg_name rfl rfl sc_grouped.nd (si_range1 rfl T.range (sa_cons (se_len rfl T.len (sa_cons (se_var 1) sa_nil)) sa_nil)) (blkOk_by (N := N_grouped) (sc := defScope s_grouped) (by decide +kernel)) (fun _ _ _ _ _ => (pg_name (i := 4) sc_grouped.nd rfl (by first | exact Or.inl rfl | exact Or.inr rfl))) (fun _ _ _ _ _ => sts_nil) (fun _ _ _ _ _ => (se_tup (sa_cons (se_var 4) sa_nil))))) (sa_cons (se_var 2) sa_nil))))))))
theorem sc__law_right : FnScope N__law_right ["thing", "weights", "bound"] (defScope s__law_right) := ⟨rfl, rfl, rfl, by decide +kernel, rfl, by decide +kernel, by decide +kernel⟩
theorem ok__law_right {f : Addr} {fd : FuncData} (F : Fun K "_law_right" "_law_right" s__law_right f fd) (T : Txt K mg ec) (C__law_classes : Cal P w K mg base ec "_law_classes" 1 1 g__law_classes) (C__law_most_groups : Cal P w K mg base ec "_law_most_groups" 3 1 g__law_most_groups) (C__law_told : Cal P w K mg base ec "_law_told" 3 10 g__law_told) (C_grouped : Cal P w K mg base ec "grouped" 2 10 g_grouped) : FnOk P w K mg base (L2N.CX P w) 11 f fd ["thing", "weights", "bound"] (spP K ec 3 g__law_right) :=
  by
  rw [g__law_right_eq]
  exact fn_pure F sc__law_right rfl fun cdv A outer s G0 H E i0 hr => by
    have hu := hr.units; have hu1 := hu_of hr; have hu0 := hr.units0; have hu65 := units65 hr; have hu70 := units70 hr
    exact (ss_cons (ss_set .P (i := 3) sc__law_right.nd (se_call C__law_classes tk_cx (hr.mono (by decide)) rfl (sa_cons (se_var 0) sa_nil))) (ss_cons (ss_set .P (i := 4) sc__law_right.nd (se_new (sn_lc (own := [("part", 12)]) tg_name rfl rfl sc__law_right.nd (si_seq (se_var 3)) (blkOk_by (N := N__law_right) (sc := defScope s__law_right) (by decide +kernel)) (fun _ _ _ _ _ => (pg_name (i := 12) sc__law_right.nd rfl (by first | exact Or.inl rfl | exact Or.inr rfl))) (fun _ _ _ _ _ => sts_nil) (fun _ _ _ _ _ => (se_maxL rfl rfl T.max (sa_cons (se_new (sn_lc (own := [("j", 15)]) tg_name rfl rfl sc__law_right.nd (si_seq (se_var 12)) (blkOk_by (by kernel_rfl)) (fun _ _ _ _ _ => (pg_name (i := 15) sc__law_right.nd rfl (by first | exact Or.inl rfl | exact Or.inr rfl))) (fun _ _ _ _ _ => sts_nil) (fun _ _ _ _ _ => (se_at (se_var 1) (se_var 15))))) sa_nil)))))) (ss_cons (ss_set .P (i := 5) sc__law_right.nd (se_call C__law_most_groups tk_cx (hr.mono (by decide)) rfl (sa_cons (se_var 4) (sa_cons (se_var 2) (sa_cons (se_sum rfl rfl T.sum (sa_cons (se_var 1) sa_nil)) sa_nil))))) (ss_cons (ss_set .P (i := 6) sc__law_right.nd (se_call C__law_told tk_cx (hr.mono (by decide)) rfl (sa_cons (se_var 0) (sa_cons (se_var 1) (sa_cons (se_var 2) sa_nil))))) (ss_cons (ss_if (PW.pt (sw_or (st_eq hu (se_var 5) se_int) (sw_or1 (st_is (se_var 6) se_non)))) (ss_one (ss_ret (se_and (se_is (se_var 6) se_non) (se_one (se_eq hu (se_var 5) se_int))))) ss_nil) (ss_cons (ss_own (i := 7) sc__law_right.nd (sn_lst sa_nil)) (ss_cons (ss_for hp_cx rfl (si_seq (se_var 6)) (sg_name (i := 8) sc__law_right.nd) (ss_frz 7 (ss_one (ss_own (i := 7) sc__law_right.nd (sn_add (se_var 7) (se_list rfl T.list (sa_cons (se_var 8) sa_nil))))))) (ss_cons (ss_if (PW.pt (sw_or (st_not (st_val (se_isi rfl T.isinstance (se_var 6) rfl T.list (by decide +kernel)))) (sw_or (st_ne hu (se_len rfl T.len (sa_cons (se_var 6) sa_nil)) (se_var 5)) (sw_or1 (st_ne hu (se_sortD hu70 rfl T.sorted (sa_cons (se_var 7) sa_nil)) (se_listRg rfl rfl T.list rfl T.range (se_len rfl T.len (sa_cons (se_var 3) sa_nil)))))))) (ss_one (ss_ret se_bl)) ss_nil) (ss_cons (ss_if (PW.pt (sw_or (st_ne hu (se_var 6) (se_sortD hu70 rfl T.sorted (sa_cons (se_var 6) sa_nil))) (sw_or1 (st_not (st_val (se_all rfl rfl T.all (sa_cons (se_new (sn_lc (own := [("group", 8)]) tg_name rfl rfl sc__law_right.nd (si_seq (se_var 6)) (blkOk_by (N := N__law_right) (sc := defScope s__law_right) (by decide +kernel)) (fun _ _ _ _ _ => (pg_name (i := 8) sc__law_right.nd rfl (by first | exact Or.inl rfl | exact Or.inr rfl))) (fun _ _ _ _ _ => sts_nil) (fun _ _ _ _ _ => (se_and (se_eq hu (se_var 8) (se_sortD hu70 rfl T.sorted (sa_cons (se_var 8) sa_nil))) (se_one (se_ne hu (se_var 8) (se_new (sn_lst sa_nil)))))))) sa_nil))))))) (ss_one (ss_ret se_bl)) ss_nil) (ss_cons (ss_set .P (i := 9) sc__law_right.nd (se_sum rfl rfl T.sum (sa_cons (se_new (sn_lc (own := [("group", 8)]) tg_name rfl rfl sc__law_right.nd (si_seq (se_var 6)) (blkOk_by (N := N__law_right) (sc := defScope s__law_right) (by decide +kernel)) (fun _ _ _ _ _ => (pg_name (i := 8) sc__law_right.nd rfl (by first | exact Or.inl rfl | exact Or.inr rfl))) (fun _ _ _ _ _ => sts_nil) (fun _ _ _ _ _ => (se_maxL rfl rfl T.max (sa_cons (se_new (sn_lc (own := [("at", 11)]) tg_name rfl rfl sc__law_right.nd (si_seq (se_var 8)) (blkOk_by (by kernel_rfl)) (fun _ _ _ _ _ => (pg_name (i := 11) sc__law_right.nd rfl (by first | exact Or.inl rfl | exact Or.inr rfl))) (fun _ _ _ _ _ => sts_nil) (fun _ _ _ _ _ => (se_at (se_var 4) (se_var 11))))) sa_nil))))) sa_nil))) (ss_cons (ss_if (st_gt (se_mul (se_var 9) (se_at (se_var 2) se_int)) (se_mul (se_at (se_var 2) se_int) (se_sum rfl rfl T.sum (sa_cons (se_var 1) sa_nil)))) (ss_one (ss_ret se_bl)) ss_nil) (ss_cons (ss_set .P (i := 10) sc__law_right.nd (se_call C_grouped tk_cx (hr.mono (by decide)) rfl (sa_cons (se_var 0) (sa_cons (se_var 6) sa_nil)))) (ss_cons (ss_if (st_ne hu (se_at (se_var 10) se_int) (se_new (sn_lc (own := [("at", 11)]) tg_name rfl rfl sc__law_right.nd (si_range1 rfl T.range (sa_cons (se_len rfl T.len (sa_cons (se_var 6) sa_nil)) sa_nil)) (blkOk_by (N := N__law_right) (sc := defScope s__law_right) (by decide +kernel)) (fun _ _ _ _ _ => (pg_name (i := 11) sc__law_right.nd rfl (by first | exact Or.inl rfl | exact Or.inr rfl))) (fun _ _ _ _ _ => sts_nil) (fun _ _ _ _ _ => (se_tup (sa_cons (se_var 11) sa_nil)))))) (ss_one (ss_ret se_bl)) ss_nil) (ss_cons (ss_for hp_cx rfl (si_enum rfl T.enumerate (sa_cons (se_var 3) sa_nil)) (sg_tup rfl (sn_cons (i := 11) sc__law_right.nd (sn_cons (i := 12) sc__law_right.nd sn_nil))) (ss_cons (ss_set .P (i := 13) sc__law_right.nd (se_at (se_new (sn_lc (own := [("place", 16), ("group", 8)]) tg_tuple rfl rfl sc__law_right.nd (si_enum rfl T.enumerate (sa_cons (se_var 6) sa_nil)) (blkOk_by (N := N__law_right) (sc := defScope s__law_right) (by decide +kernel)) (fun _ _ _ _ _ => (pg_tup (n := 2) rfl (sn_cons (i := 16) sc__law_right.nd (sn_cons (i := 8) sc__law_right.nd sn_nil)))) (fun _ _ _ _ _ => (sts_one (st_in hu65 (se_var 11) (se_var 8)))) (fun _ _ _ _ _ => (se_var 16)))) se_int)) (ss_one (ss_for hp_cx rfl (si_seq (se_var 12)) (sg_name (i := 14) sc__law_right.nd) (ss_one (ss_if (st_ne hu (se_at (se_at (se_var 10) se_int) (se_var 14)) (se_new (sn_lc (own := [("place", 16)]) tg_name rfl rfl sc__law_right.nd (si_range1 rfl T.range (sa_cons (se_len rfl T.len (sa_cons (se_var 6) sa_nil)) sa_nil)) (blkOk_by (N := N__law_right) (sc := defScope s__law_right) (by decide +kernel)) (fun _ _ _ _ _ => (pg_name (i := 16) sc__law_right.nd rfl (by first | exact Or.inl rfl | exact Or.inr rfl))) (fun _ _ _ _ _ => sts_nil) (fun _ _ _ _ _ => (se_tup (sa_cons (se_intc rfl T.int (sa_cons (se_eq hu (se_var 16) (se_var 13)) sa_nil)) (sa_cons se_int sa_nil))))))) (ss_one (ss_ret se_bl)) ss_nil)))))) (ss_one (ss_ret se_bl))))))))))))))))
theorem sc_law : FnScope N_law ["script"] (defScope s_law) := ⟨rfl, rfl, rfl, by decide +kernel, rfl, by decide +kernel, by decide +kernel⟩
theorem ok_law {f : Addr} {fd : FuncData} (F : Fun K "law" "law" s_law f fd) (T : Txt K mg ec) (C__law_cell : Cal P w K mg base ec "_law_cell" 2 1 g__law_cell) (C__law_drawn : Cal P w K mg base ec "_law_drawn" 2 1 g__law_drawn) (C__law_made : Cal P w K mg base ec "_law_made" 2 1 g__law_made) (C__law_plain : Cal P w K mg base ec "_law_plain" 3 2 g__law_plain) (C__law_plus : Cal P w K mg base ec "_law_plus" 2 2 g__law_plus) (C__law_right : Cal P w K mg base ec "_law_right" 3 11 g__law_right) (C__law_told : Cal P w K mg base ec "_law_told" 3 10 g__law_told) (C__law_weights : Cal P w K mg base ec "_law_weights" 2 2 g__law_weights) : FnOk P w K mg base (L2N.CX P w) 12 f fd ["script"] (spP K ec 1 g_law) :=
  by
  rw [g_law_eq]
  exact fn_pure F sc_law rfl fun cdv A outer s G0 H E i0 hr => by
    have hu := hr.units; have hu1 := hu_of hr; have hu0 := hr.units0; have hu65 := units65 hr; have hu70 := units70 hr
    exact (ss_cons (ss_for hp_cx rfl (si_range1 rfl T.range (sa_cons (se_max2 rfl rfl T.max (sa_cons se_int (sa_cons (se_min2 rfl rfl T.min (sa_cons se_int (sa_cons (se_len rfl T.len (sa_cons (se_var 0) sa_nil)) sa_nil))) sa_nil))) sa_nil)) (sg_name (i := 1) sc_law.nd) (ss_cons (ss_set .P (i := 2) sc_law.nd (se_call C__law_drawn tk_cx (hr.mono (by decide)) rfl (sa_cons (se_call C__law_cell tk_cx (hr.mono (by decide)) rfl (sa_cons (se_var 0) (sa_cons (se_var 1) sa_nil))) (sa_cons (se_var 1) sa_nil)))) (ss_cons (ss_set .P (i := 3) sc_law.nd (se_add se_int (se_mod (se_var 2) se_int))) (ss_cons (ss_set .P (i := 4) sc_law.nd (se_call C__law_plain tk_cx (hr.mono (by decide)) rfl (sa_cons (se_div (se_var 2) se_int) (sa_cons (se_var 3) (sa_cons (se_add se_int (se_mod (se_div (se_var 2) se_int) se_int)) sa_nil))))) (ss_cons (ss_set .P (i := 5) sc_law.nd (se_call C__law_weights tk_cx (hr.mono (by decide)) rfl (sa_cons (se_var 2) (sa_cons (se_var 3) sa_nil)))) (ss_cons (ss_set .P (i := 6) sc_law.nd (se_call C__law_made tk_cx (hr.mono (by decide)) rfl (sa_cons (se_maxL rfl rfl T.max (sa_cons (se_var 5) sa_nil)) (sa_cons (se_sum rfl rfl T.sum (sa_cons (se_var 5) sa_nil)) sa_nil)))) (ss_cons (ss_set .P (i := 7) sc_law.nd (se_new (sn_lst (sa_cons (se_var 6) (sa_cons (se_call C__law_plus tk_cx (hr.mono (by decide)) rfl (sa_cons (se_var 6) (sa_cons (se_tup (sa_cons (se_neg se_int) (sa_cons se_int sa_nil))) sa_nil))) (sa_cons (se_tup (sa_cons se_int (sa_cons se_int sa_nil))) sa_nil)))))) (ss_cons (ss_set .P (i := 7) sc_law.nd (se_add (se_var 7) (se_new (sn_lst (sa_cons (se_call C__law_plus tk_cx (hr.mono (by decide)) rfl (sa_cons (se_var 6) (sa_cons (se_tup (sa_cons (se_add se_int (se_mod (se_div (se_var 2) se_int) se_int)) (sa_cons se_int sa_nil))) sa_nil))) (sa_cons (se_tup (sa_cons se_int (sa_cons se_int sa_nil))) (sa_cons (se_tup (sa_cons (se_neg se_int) (sa_cons se_int sa_nil))) (sa_cons (se_tup (sa_cons se_int (sa_cons se_int sa_nil))) sa_nil)))))))) (ss_cons (ss_if (st_not (st_val (se_all rfl rfl T.all (sa_cons (se_new (sn_lc (own := [("bound", 10)]) tg_name rfl rfl sc_law.nd (si_seq (se_var 7)) (blkOk_by (N := N_law) (sc := defScope s_law) (by decide +kernel)) (fun _ _ _ _ _ => (pg_name (i := 10) sc_law.nd rfl (by first | exact Or.inl rfl | exact Or.inr rfl))) (fun _ _ _ _ _ => sts_nil) (fun _ _ _ _ _ => (se_call C__law_right takes0N (hr.mono (by decide)) rfl (sa_cons (se_var 4) (sa_cons (se_var 5) (sa_cons (se_var 10) sa_nil))))))) sa_nil)))) (ss_one (ss_ret se_bl)) ss_nil) (ss_cons (ss_set .P (i := 8) sc_law.nd (se_tup (sa_cons (se_new (sn_lst (sa_cons (se_tup (sa_cons se_int sa_nil)) (sa_cons (se_tup (sa_cons se_int sa_nil)) sa_nil)))) (sa_cons (se_mul (se_new (sn_lst (sa_cons (se_new (sn_lst (sa_cons (se_tup (sa_cons se_int (sa_cons se_int sa_nil))) (sa_cons (se_tup (sa_cons se_int (sa_cons se_int sa_nil))) sa_nil)))) sa_nil))) (se_var 3)) sa_nil)))) (ss_cons (ss_own (i := 9) sc_law.nd (sn_lst (sa_cons (se_call C__law_told tk_cx (hr.mono (by decide)) rfl (sa_cons (se_var 8) (sa_cons (se_var 5) (sa_cons (se_tup (sa_cons se_int (sa_cons se_int sa_nil))) sa_nil)))) (sa_cons (se_call C__law_told tk_cx (hr.mono (by decide)) rfl (sa_cons (se_var 4) (sa_cons (se_sl (se_var 5) (so_some se_int) so_none) (sa_cons (se_tup (sa_cons se_int (sa_cons se_int sa_nil))) sa_nil)))) sa_nil)))) (ss_cons (ss_app .P (i := 9) (se_call C__law_told tk_cx (hr.mono (by decide)) rfl (sa_cons (se_tup (sa_cons (se_new (sn_lst sa_nil)) (sa_cons (se_new (sn_lst sa_nil)) sa_nil))) (sa_cons (se_var 5) (sa_cons (se_tup (sa_cons se_int (sa_cons se_int sa_nil))) sa_nil))))) (ss_one (ss_if (st_ne hu (se_var 9) (se_new (sn_lst (sa_cons se_str (sa_cons se_str (sa_cons se_str sa_nil)))))) (ss_one (ss_ret se_bl)) ss_nil)))))))))))))) (ss_one (ss_ret se_bl)))
end
theorem cell_ok (ns : List Int) (hl : ns.length ≤ 63) (k : Int) (hk : 0 ≤ k) : ∃ c : Int, g__law_cell [.list (ns.map .int), .int k] = .ok (.int c) := by
  cases ns with
  | nil =>
    refine ⟨k * 7919, ?_⟩
    simp [g__law_cell_eq, runB, fb__law_cell, entry, sSeq, sRet, sIf, bVal, eBin, eVar, eC, eLst, aAll, Sl.full, dEq_nil, dMul_int, mulOk_r]
  | cons n r =>
    have h0 : (0 : Int) < ((n :: r).length : Int) := by rw [List.length_cons]; omega
    have hm0 : 0 ≤ k % ((n :: r).length : Int) := Int.emod_nonneg _ (by omega)
    have hm1 : k % ((n :: r).length : Int) < ((n :: r).length : Int) := Int.emod_lt_of_pos _ h0
    obtain ⟨x, hx⟩ := dIx_any (xs := (n :: r).map PyData.int) (i := k % ((n :: r).length : Int)) hm0 (by simpa using hm1)
    have hx2 : ∃ z : Int, x = .int z := by
      obtain ⟨z, _, e⟩ := List.mem_map.mp hx.2
      exact ⟨z, e.symm⟩
    obtain ⟨z, rfl⟩ := hx2
    have e1 := shaped_ints (n :: r)
    have dv : divOk (((n :: r).length : Nat) : Int) = true := divOk_small h0 (by omega)
    refine ⟨z + k / ((n :: r).length : Int) * 104729, ?_⟩
    have hx1 := hx.1
    simp only [List.map_cons, List.length_cons] at hx1 e1 dv h0 hl ⊢
    simp [g__law_cell_eq, runB, fb__law_cell, entry, sSeq, sRet, sIf, sNil, bVal, eBin, eVar, eC, eLst, eCall, aAll, Sl.full, dEq_nil, e1, dMul_int, mulOk_r, dMod_int, dDiv_int]
    simp only [Int.natCast_add, Int.cast_ofNat_Int] at *
    simp [h0, dv, dMod_int, dDiv_int, hx1, dMul_int, mulOk_r]
theorem drawn_ok (c k : Int) : ∃ m : Int, g__law_drawn [.int c, .int k] = .ok (.int m) ∧ 0 ≤ m ∧ m < 340282366920938463463374607431768211507 := by
  generalize h1 : (c * 6364136223846793005 + (k + 1) * 1442695040888963407) % 340282366920938463463374607431768211507 = m1
  generalize h2 : m1 * m1 % 340282366920938463463374607431768211297 = m2
  generalize h3 : (m2 % 18446744073709551557 + 1) * (m2 / 18446744073709551557 + 1) * m2 = m3
  have b1 : 0 ≤ m1 ∧ m1 < 340282366920938463463374607431768211507 := by omega
  have b2 : 0 ≤ m2 ∧ m2 < 340282366920938463463374607431768211297 := by omega
  have ok1 : mulOk m1 m1 = true := mulOk_bd (n := 129) (m := 129) (by unfold Bd; omega) (by unfold Bd; omega) (by decide)
  have ok2 : mulOk (m2 % 18446744073709551557 + 1) (m2 / 18446744073709551557 + 1) = true := mulOk_bd (n := 128) (m := 128) (by unfold Bd; omega) (by unfold Bd; omega) (by decide)
  have ok3 : mulOk ((m2 % 18446744073709551557 + 1) * (m2 / 18446744073709551557 + 1)) m2 = true := mulOk_bd (n := 256) (m := 128) (by
    unfold Bd
    rw [Int.natAbs_mul]
    have x1 : (m2 % 18446744073709551557 + 1).natAbs < 2 ^ 128 := by omega
    have x2 : (m2 / 18446744073709551557 + 1).natAbs < 2 ^ 128 := by omega
    calc _ < 2 ^ 128 * 2 ^ 128 := Nat.mul_lt_mul'' x1 x2
      _ = 2 ^ 256 := by decide) (by unfold Bd; omega) (by decide)
  refine ⟨m3 % 340282366920938463463374607431768211507, ?_, by omega, by omega⟩
  simp [g__law_drawn_eq, runB, fb__law_drawn, entry, sSeq, sAsg, sRet, evM, eBin, eVar, eC, Sl.pur, Sl.full, dMul_int, mulOk_r, dMod_int, dDiv_int, divOk_small, h1, h2, h3, ok1, ok2, ok3]
/-! the program's fractions -/
theorem common_ok {K : Nat} (hK : K ≤ 9000) (a b : Int) (ha : 0 ≤ a) (hb : 0 ≤ b) (hz : b.natAbs < 2 ^ K) : g_common [.int a, .int b] = .ok (.int (Int.gcd a b)) := by
  have hz2 : b < (2 : Int) ^ K := by
    have h2 : ((2 ^ K : Nat) : Int) = (2 : Int) ^ K := Int.natCast_pow 2 K
    rw [← h2]
    omega
  have hf := fuelW_ge
  have e := euclid (t := bVal (eBin dGt (eVar 1) (eC (.int 0)))) (body := lp_common_0) (fun a b => [.pu (.int a), .pu (.int b)]) (fun a b => by simp [bVal, eBin, eVar, eC]) (fun a b h => by simp [lp_common_0, sPar, evML, aAll, eVar, eBin, dMod_int, h]) K fuelW a b ha hb hz2 (by omega)
  simp [g_common_eq, runB, fb_common, entry, sSeq, sWhile, e, sRet, eVar]
theorem fraction_ok {K : Nat} (hK : K ≤ 8000) (a b : Int) (hb : 0 < b) (hz : b.natAbs < 2 ^ K) : g_fraction [.int a, .int b] = .ok (frD (mkRat a b.toNat)) := by
  have h0 : (0 : Int) ≤ (if a < 0 then -a else a) := by split <;> omega
  have e := common_ok (K := K) (by omega) (if a < 0 then -a else a) b h0 (by omega) hz
  have hgp : 0 < Int.gcd (if a < 0 then -a else a) b := Int.gcd_pos_of_ne_zero_right _ (by omega)
  have hgl : Int.gcd (if a < 0 then -a else a) b ≤ b.natAbs := Nat.le_of_dvd (by omega) (Int.gcd_dvd_natAbs_right _ _)
  have hd : divOk ((Int.gcd (if a < 0 then -a else a) b : Nat) : Int) = true := divOk_bd (n := K) (by omega) (by
    unfold Bd
    omega) (by omega)
  have f := frac_of a b hb
  generalize hg : ((Int.gcd (if a < 0 then -a else a) b : Nat) : Int) = g at *
  rw [g_fraction_eq]
  unfold fb_fraction
  simp [runB, entry, sSeq, sAsg, sRet, evM, eCall, aAll, eVar, eBin, eTup, e, dDiv_int, hd, f]
section
variable {n m : Nat} {a b : Rat}
theorem bd_num (h : Bq n a) : Bd n a.num := h.1
theorem bd_den (h : Bq n a) : Bd n (a.den : Int) := by
  unfold Bd
  simpa using h.2
theorem den_pos2 (a b : Rat) : (0 : Int) < (a.den : Int) * (b.den : Int) := Int.mul_pos (by have := a.den_nz; omega) (by have := b.den_nz; omega)
theorem den_mul_cast (a b : Rat) : ((a.den : Int) * (b.den : Int)).toNat = a.den * b.den := by
  rw [← Int.natCast_mul]
  exact Int.toNat_natCast _
theorem den_lt (ha : Bq n a) (hb : Bq m b) : ((a.den : Int) * (b.den : Int)).natAbs < 2 ^ (n + m) := by
  rw [← Int.natCast_mul]
  exact mul_lt2 ha.2 hb.2
theorem plus_d (p q r s : Int) (d : PyData) (e : g_fraction [.int (p * s + r * q), .int (q * s)] = .ok d) (m1 : mulOk p s = true) (m2 : mulOk r q = true) (m3 : mulOk q s = true) : g_plus [.tuple [.int p, .int q], .tuple [.int r, .int s]] = .ok d := by
  rw [g_plus_eq]
  unfold fb_plus
  simp [runB, entry, sRet, eCall, aAll, eVar, eBin, eC, dMul_int, m1, m2, m3, e]
theorem plus_ok (ha : Bq n a) (hb : Bq m b) (h : n + m ≤ 8000) : g_plus [frD a, frD b] = .ok (frD (a + b)) := by
  have e := fraction_ok h (a.num * b.den + b.num * a.den) (a.den * b.den) (den_pos2 a b) (den_lt ha hb)
  rw [den_mul_cast, ← Rat.add_def'] at e
  rw [frD_eq a, frD_eq b]
  exact plus_d _ _ _ _ _ e (mulOk_bd (bd_num ha) (bd_den hb) (by omega)) (mulOk_bd (bd_num hb) (bd_den ha) (by omega)) (mulOk_bd (bd_den ha) (bd_den hb) (by omega))
theorem sgn_mul (w r : Int) (h : r ≠ 0) (hw : w = if 0 < r then 1 else -1) : w = r.sign ∧ w * r = (r.natAbs : Int) ∧ w.natAbs = 1 := by
  rcases Int.lt_or_gt_of_ne h with hs | hs
  · rw [if_neg (by omega)] at hw
    subst hw
    exact ⟨(Int.sign_eq_neg_one_of_neg hs).symm, by omega, rfl⟩
  · rw [if_pos hs] at hw
    subst hw
    exact ⟨(Int.sign_eq_one_of_pos hs).symm, by omega, rfl⟩
end
theorem total_ok {n L : Nat} (rs : List Rat) (h : ∀ r ∈ rs, Bq n r) (hl : rs.length ≤ L) (hz : (L + 1) * (n + 1) + 1 ≤ 8000) : g_total [.list (rs.map frD)] = .ok (frD (qsum rs)) ∧ Bq (L * (n + 1) + 1) (qsum rs) := by
  obtain ⟨e, h1, z, h2, h3⟩ := forF_idx (tg := gN 2) (body := lp_total_0) frD (fun a b => a + b) (fun i b env => ∃ z, env = [.pu (.list (rs.map frD)), .pu (frD b), z] ∧ Bq (i * (n + 1) + 1) b) rs 0 (0 : Rat) [.pu (.list (rs.map frD)), .pu (frD 0), .no] ⟨_, rfl, by rw [Nat.zero_mul]; exact ⟨by decide, by decide⟩⟩ (fun i b env ⟨z, he, hb⟩ _ hi x hx => by
    subst he
    have hm : i * (n + 1) ≤ L * (n + 1) := Nat.mul_le_mul_right _ (by omega)
    have hL : (L + 1) * (n + 1) = L * (n + 1) + (n + 1) := Nat.succ_mul _ _
    have e := plus_ok hb (h x hx) (by omega)
    refine ⟨_, [.pu (.list (rs.map frD)), .pu (frD (b + x)), .pu (frD x)], rfl, ?_, _, rfl, ?_⟩
    · generalize b + x = y at *
      unfold lp_total_0
      simp [sAsg, evM, eCall, aAll, eVar, e]
    · have := bq_add hb (h x hx)
      exact this.mono (by rw [Nat.succ_mul]; omega))
  rw [qsum_foldl, Rat.zero_add] at h2 h3
  subst h2
  rw [Nat.zero_add] at h3
  refine ⟨?_, h3.mono (by have : rs.length * (n + 1) ≤ L * (n + 1) := Nat.mul_le_mul_right _ hl; omega)⟩
  generalize qsum rs = y at *
  rw [g_total_eq]
  unfold fb_total
  generalize lp_total_0 = bb at *
  simp [runB, entry, sSeq, sAsg, sRet, evM, eC, c_NOUGHT, fr_zero, sFor, iSeq, eVar, itemsOf, h1]
/-! the law's own fractions -/
theorem lmade_d (a b : Int) (hb : 0 < b) {K : Nat} (hK : K ≤ 8000) (hz : b.natAbs < 2 ^ K) : g__law_made [.int a, .int b] = .ok (frD (mkRat a b.toNat)) := by
  have hz2 : b < (2 : Int) ^ K := by
    have h2 : ((2 ^ K : Nat) : Int) = (2 : Int) ^ K := Int.natCast_pow 2 K
    rw [← h2]
    omega
  have hf := fuelW_ge
  have h0 : (0 : Int) ≤ (if a < 0 then -a else a) := by split <;> omega
  have e := euclid (t := bVal (eBin dGt (eVar 3) (eC (.int 0)))) (body := lp__law_made_0) (fun x y => [.pu (.int a), .pu (.int b), .pu (.int x), .pu (.int y)]) (fun x y => by simp [bVal, eBin, eVar, eC]) (fun x y h => by simp [lp__law_made_0, sPar, evML, aAll, eVar, eBin, dMod_int, h]) K fuelW (if a < 0 then -a else a) b h0 (by omega) hz2 (by omega)
  have hgp : 0 < Int.gcd (if a < 0 then -a else a) b := Int.gcd_pos_of_ne_zero_right _ (by omega)
  have hgl : Int.gcd (if a < 0 then -a else a) b ≤ b.natAbs := Nat.le_of_dvd (by omega) (Int.gcd_dvd_natAbs_right _ _)
  have hd : divOk ((Int.gcd (if a < 0 then -a else a) b : Nat) : Int) = true := divOk_bd (n := K) (by omega) (by
    unfold Bd
    omega) (by omega)
  have f := frac_of a b hb
  generalize hg : ((Int.gcd (if a < 0 then -a else a) b : Nat) : Int) = g at *
  rw [g__law_made_eq]
  unfold fb__law_made
  generalize lp__law_made_0 = bb at *
  simp [runB, entry, sSeq, sPar, evML, sRet, eCall, aAll, eVar, eBin, eTup, sWhile, e, dDiv_int, hd, f]
section
variable {n m : Nat} {a b : Rat}
theorem lplus_d (p q r s : Int) (d : PyData) (e : g__law_made [.int (p * s + r * q), .int (q * s)] = .ok d) (m1 : mulOk p s = true) (m2 : mulOk r q = true) (m3 : mulOk q s = true) : g__law_plus [.tuple [.int p, .int q], .tuple [.int r, .int s]] = .ok d := by
  rw [g__law_plus_eq]
  unfold fb__law_plus
  simp [runB, entry, sRet, eCall, aAll, eVar, eBin, eC, dMul_int, m1, m2, m3, e]
theorem lplus_ok (ha : Bq n a) (hb : Bq m b) (h : n + m ≤ 8000) : g__law_plus [frD a, frD b] = .ok (frD (a + b)) := by
  have e := lmade_d (a.num * b.den + b.num * a.den) (a.den * b.den) (den_pos2 a b) h (den_lt ha hb)
  rw [den_mul_cast, ← Rat.add_def'] at e
  rw [frD_eq a, frD_eq b]
  exact lplus_d _ _ _ _ _ e (mulOk_bd (bd_num ha) (bd_den hb) (by omega)) (mulOk_bd (bd_num hb) (bd_den ha) (by omega)) (mulOk_bd (bd_den ha) (bd_den hb) (by omega))
end
theorem mkRat_div (a : Int) (b : Int) (hb : 0 < b) : mkRat a b.toNat = (a : Rat) / (b : Rat) := by
  rw [Rat.mkRat_eq_div]
  congr 1
  have : ((b.toNat : Nat) : Int) = b := by omega
  rw [← this]
  rfl
/-! tables -/
theorem isfr_d (p q : Int) (d : PyData) (e : g_common [.int (if p < 0 then -p else p), .int q] = .ok d) (hq : 0 < q) (h1 : dEq d (.int 1) = .ok (.bool true)) : g_is_fraction [.tuple [.int p, .int q]] = .ok (.bool true) := by
  rw [g_is_fraction_eq]
  unfold fb_is_fraction
  simp [runB, entry, sSeq, sIf, sNil, sRet, bOr, bNot, bVal, bC, eAnd, eNot, eUn, eBin, eC, eVar, eCall, aAll, isi_tuple, is_tuple, eLc, iSeq, itemsOf, lcF, cN, bYes, isi_int, is_int, isi_bool, is_bool, lcE, szl_eq, gAll, boolsOf, hq, e, h1]
theorem isfr_ok {n : Nat} (hn : n ≤ 8000) {r : Rat} (h : Bq n r) : g_is_fraction [frD r] = .ok (.bool true) := by
  have hd := r.den_nz
  have e := common_ok (K := n) (by omega) (if r.num < 0 then -r.num else r.num) (r.den : Int) (by split <;> omega) (by omega) (by simpa using h.2)
  have g : Int.gcd (if r.num < 0 then -r.num else r.num) (r.den : Int) = 1 := by
    have hc : r.num.natAbs.gcd r.den = 1 := r.reduced
    unfold Int.gcd
    rw [Int.natAbs_natCast]
    have : (if r.num < 0 then -r.num else r.num).natAbs = r.num.natAbs := by split <;> omega
    rw [this]
    exact hc
  rw [g] at e
  rw [frD_eq]
  exact isfr_d r.num r.den _ e (by omega) (by simp)
theorem boolsOf_true {α : Type} : ∀ xs : List α, boolsOf (xs.map fun _ => PyData.bool true) = some (xs.map fun _ => true)
  | [] => rfl
  | x :: xs => by simp [boolsOf, boolsOf_true xs]
theorem gAll_true {α : Type} (xs : List α) : gAll [.list (xs.map fun _ => PyData.bool true)] = .ok (.bool true) := by
  unfold gAll
  dsimp only
  rw [boolsOf_true]
  simp
structure RowOk (n : Nat) (row : List Rat) : Prop where
  b : ∀ r ∈ row, Bq n r
  p : ∀ r ∈ row, 0 ≤ r
  s : qsum row = 1
theorem isrow_ok {n L : Nat} (row : List Rat) (h : RowOk n row) (hl : row.length ≤ L) (hz : (L + 1) * (n + 1) + 1 ≤ 8000) : g_is_row [.list (row.map frD), .int row.length] = .ok (.bool true) := by
  have hn : n ≤ 8000 := by
    have : (L + 1) * (n + 1) = L * (n + 1) + (n + 1) := Nat.succ_mul _ _
    omega
  have hL : L ≤ 900000 := by
    have : L * 1 ≤ (L + 1) * (n + 1) := Nat.mul_le_mul (by omega) (by omega)
    omega
  have e1 := (total_ok row h.b hl hz).1
  rw [h.s] at e1
  have e2 : eLc (cN 2) (iSeq (eVar 0)) bYes (eAnd (eCall g_is_fraction [(eVar 2)]) (eBin dGe (eBin dIx (eVar 2) (eC (.int 0))) (eC (.int 0)))) [some (.list (row.map frD)), some (.int row.length), none] = .ok (.list (row.map fun _ => .bool true)) :=
    eLc_ok frD (fun _ => .bool true) row (by simp [iSeq, eVar, itemsOf]) (by omega) (fun r hr => by
      have f := isfr_ok hn (h.b r hr)
      have q : 0 ≤ r.num := Rat.num_nonneg.mpr (h.p r hr)
      refine ⟨_, rfl, rfl, ?_⟩
      simp [eAnd, bVal, eCall, aAll, eVar, eBin, eC, f, q])
  have e3 : dEq (frD 1) c_ONE = .ok (.bool true) := by
    have h1 : c_ONE = frD 1 := fr_one
    rw [h1, dEq_fr]
    simp
  rw [g_is_row_eq]
  unfold fb_is_row
  simp only [runB, entry, List.map_cons, List.map_nil, List.length_cons, List.length_nil, Nat.reduceSub, List.replicate, List.cons_append, List.nil_append] at *
  simp [sSeq, sIf, sNil, sRet, bOr, bNot, bVal, bC, eBin, eC, eVar, eCall, aAll, e1, e2, e3, gAll_true]
/-! whole tables -/
def Rising : List PyData → Prop
  | [] => True
  | [_] => True
  | x :: y :: r => ltD x y = some true ∧ Rising (y :: r)
structure SightsOk (ss : List PyData) : Prop where
  sh : ∃ n, n ≤ 60 ∧ ∀ s ∈ ss, Shp n s
  r : Rising ss
noncomputable def rowsD (rows : List (List Rat)) : PyData := .list (rows.map fun row => .list (row.map frD))
noncomputable def tabD (ss : List PyData) (rows : List (List Rat)) : PyData := .tuple [.list ss, rowsD rows]
theorem zip_tail (x : PyData) (r : List PyData) : zipF (x :: r) ((x :: r).drop 1) = (List.zip (x :: r) r).map fun p => .tuple [p.1, p.2] := by
  unfold zipF
  rw [List.drop_one, List.tail_cons, List.zip, List.map_zipWith]
theorem rising_mem : ∀ (ss : List PyData), Rising ss → ∀ p ∈ List.zip ss (ss.drop 1), ltD p.1 p.2 = some true
  | [], _, p, hp => by simp at hp
  | [_], _, p, hp => by simp at hp
  | x :: y :: r, h, p, hp => by
    rw [List.drop_one, List.tail_cons, List.zip_cons_cons] at hp
    rcases List.mem_cons.mp hp with rfl | hp
    · exact h.1
    · exact rising_mem (y :: r) h.2 p (by simpa using hp)
theorem cut1 (xs : List PyData) : cutD xs (some 1) none = xs.drop 1 := by
  unfold cutD
  rw [HT.sIx_none]
  have e : HT.sIx xs.length 0 (some 1) = min 1 xs.length := rfl
  rw [e]
  rcases Nat.lt_or_ge xs.length 1 with h | h
  · have : xs = [] := List.eq_nil_of_length_eq_zero (by omega)
    subst this
    rfl
  · rw [Nat.min_eq_left h]
    exact List.take_of_length_le (by rw [List.length_drop]; omega)
theorem needtab_ok {n L : Nat} (ss : List PyData) (rows : List (List Rat)) (hs : SightsOk ss) (h0 : ss ≠ []) (hr : rows ≠ []) (hrow : ∀ row ∈ rows, RowOk n row ∧ row.length = ss.length) (hl : ss.length ≤ L) (hrl : rows.length ≤ 900000) (hz : (L + 1) * (n + 1) + 1 ≤ 8000) : g_need_table [tabD ss rows] = .ok .none := by
  obtain ⟨m, hm, hsh⟩ := hs.sh
  have hL : L ≤ 900000 := by
    have : L * 1 ≤ (L + 1) * (n + 1) := Nat.mul_le_mul (by omega) (by omega)
    omega
  have s1 : SeqAt.shaped (.list ss) = true := shaped_of (shp_list (shpA_of hsh)) (by omega)
  have s2 : SeqAt.shaped (rowsD rows) = true := shaped_of (n := 3) (shp_list (shpA_of fun d hd => by
    obtain ⟨row, _, rfl⟩ := List.mem_map.mp hd
    exact shp_list (shpA_of fun d hd => by
      obtain ⟨r, _, rfl⟩ := List.mem_map.mp hd
      exact shp_fr 0 r))) (by decide)
  have d1 : dEq (.list ss) (.list []) = .ok (.bool false) := by
    rw [dEq_nil ss s1]
    cases ss with
    | nil => exact absurd rfl h0
    | cons _ _ => rfl
  have d2 : dEq (rowsD rows) (.list []) = .ok (.bool false) := by
    unfold rowsD at s2 ⊢
    rw [dEq_nil _ s2]
    cases rows with
    | nil => exact absurd rfl hr
    | cons _ _ => rfl
  have e1 : eLc (cN 3) (iSeq (eVar 2)) bYes (eCall g_is_row [(eVar 3), (eCall gLen [(eVar 1)])]) [some (tabD ss rows), some (.list ss), some (rowsD rows), none, none, none] = .ok (.list (rows.map fun _ => .bool true)) :=
    eLc_ok (fun row => .list (row.map frD)) (fun _ => .bool true) rows (by simp [iSeq, eVar, itemsOf, rowsD]) hrl (fun row hrw => by
      obtain ⟨ok, len⟩ := hrow row hrw
      have f := isrow_ok row ok (L := L) (by omega) hz
      rw [len] at f
      refine ⟨_, rfl, rfl, ?_⟩
      simp [eCall, aAll, eVar, f])
  have e2 : eLc (cT [4, 5]) (iCall zip2 [(eVar 1), (eSl (eVar 1) (some (eC (.int 1))) none)]) bYes (eBin dLtN (eVar 4) (eVar 5)) [some (tabD ss rows), some (.list ss), some (rowsD rows), none, none, none] = .ok (.list ((List.zip ss (ss.drop 1)).map fun _ => .bool true)) :=
    eLc_ok (fun p : PyData × PyData => .tuple [p.1, p.2]) (fun _ => .bool true) (List.zip ss (ss.drop 1)) (by
      simp only [iCall, aAll, eVar, eSl, eOpt, eC]
      simp [dSl, cut1, zip2, zipF, List.zip, List.map_zipWith]) (by rw [List.length_zip]; omega) (fun p hp => by
      have hlt := rising_mem ss hs.r p hp
      have m1 : SeqAt.shaped p.1 = true := shaped_of (hsh _ (List.of_mem_zip hp).1) (by omega)
      have m2 : SeqAt.shaped p.2 = true := shaped_of (hsh _ (List.mem_of_mem_drop (List.of_mem_zip hp).2)) (by omega)
      refine ⟨_, rfl, rfl, ?_⟩
      simp [eBin, eVar, dLtN, m1, m2, hlt])
  rw [g_need_table_eq]
  unfold fb_need_table
  unfold tabD at *
  generalize rowsD rows = R at *
  simp [runB, entry, sSeq, sAsgT, gT, setAll, evM, sIf, sNil, bOr, bNot, bVal, bC, eBin, eC, eVar, eLst, aAll, eCall, e1, e2, d1, d2, gAll_true]
/-! weights, columns -/
def wsD (ws : List Int) : PyData := .list (ws.map .int)
theorem gSum_ws (ws : List Int) : gSum [wsD ws] = .ok (.int ws.sum) := by
  unfold gSum wsD
  dsimp only
  rw [intsOf_map]
theorem needw_ok (ws : List Int) (h : ∀ w ∈ ws, 0 ≤ w) (hs : ws.sum ≠ 0) (hl : ws.length ≤ 900000) : g_need_weights [wsD ws, .int ws.length] = .ok .none := by
  have e1 : eLc (cN 2) (iSeq (eVar 0)) bYes (eBin dGe (eVar 2) (eC (.int 0))) [some (wsD ws), some (.int ws.length), none] = .ok (.list (ws.map fun _ => .bool true)) :=
    eLc_ok PyData.int (fun _ => .bool true) ws (by simp [iSeq, eVar, itemsOf, wsD]) hl (fun w hw => ⟨_, rfl, rfl, by simp [eBin, eVar, eC, h w hw]⟩)
  have e2 := gSum_ws ws
  have e3 : gLen [wsD ws] = .ok (.int ws.length) := by unfold wsD; simp
  rw [g_need_weights_eq]
  unfold fb_need_weights
  generalize wsD ws = D at *
  simp [runB, entry, sIf, sNil, bOr, bNot, bVal, bC, eBin, eC, eVar, aAll, eCall, e1, e2, e3, hs, gAll_true]
def cols (rows : List (List Rat)) (wide : Nat) : List (List Rat) := (List.range wide).map fun i => rows.map fun row => row.getD i 0
theorem dIx_row (row : List Rat) (i : Nat) (h : i < row.length) : dIx (.list (row.map frD)) (.int (i : Int)) = .ok (frD (row.getD i 0)) := by
  rw [dIx_list (by simpa using h)]
  simp [List.getD, h]
noncomputable def frL (c : List Rat) : PyData := .list (c.map frD)
@[simp] theorem items_fr (c : List Rat) : itemsOf (frL c) = .ok (c.map frD) := rfl
@[simp] theorem items_rows (rows : List (List Rat)) : itemsOf (rowsD rows) = .ok (rows.map frL) := rfl
@[simp] theorem items_ws (ws : List Int) : itemsOf (wsD ws) = .ok (ws.map .int) := rfl
theorem col_ok (rows : List (List Rat)) (i w : Nat) (hrow : ∀ row ∈ rows, row.length = w) (hi : i < w) (hrl : rows.length ≤ 900000) (a b : Option PyData) : eLc (cN 4) (iSeq (eVar 2)) bYes (eBin dIx (eVar 4) (eVar 3)) [a, b, some (rowsD rows), some (.int (i : Int)), none] = .ok (frL (rows.map fun row => row.getD i 0)) := by
  have h := eLc_ok (tg := cN 4) (fi := iSeq (eVar 2)) (tt := bYes) (te := eBin dIx (eVar 4) (eVar 3)) (env := [a, b, some (rowsD rows), some (.int (i : Int)), none]) (fun row : List Rat => .list (row.map frD)) (fun row => frD (row.getD i 0)) rows (by rfl) hrl (fun row hr => ⟨_, rfl, rfl, by
    have h1 := dIx_row row i (by rw [hrow row hr]; exact hi)
    generalize frD (row.getD i 0) = y at *
    simp [eBin, eVar, h1]⟩)
  rw [h]
  unfold frL
  rw [List.map_map]
  rfl
theorem col_rng (ss : List PyData) (hl : ss.length ≤ 900000) : rng1 [.int ss.length] = .ok ((List.range ss.length).map fun i : Nat => .int (0 + (i : Int))) := by
  have h2 := rng1_nat ss.length hl
  unfold rngF at h2
  exact h2
theorem col_it (ss : List PyData) (R : PyData) (rr : List PyData → PL.R (List PyData)) (h2 : rr [.int ss.length] = .ok ((List.range ss.length).map fun i : Nat => .int (0 + (i : Int)))) : iCall rr [(eCall gLen [(eVar 1)])] [some (.tuple [.list ss, R]), some (.list ss), some R, none, none] = .ok ((List.range ss.length).map fun i : Nat => .int (0 + (i : Int))) := by
  simp [iCall, aAll, eCall, eVar, h2]
theorem col_lc (ss : List PyData) (R : PyData) (F : Nat → PyData) (rr : List PyData → PL.R (List PyData)) (h3 : iCall rr [(eCall gLen [(eVar 1)])] [some (.tuple [.list ss, R]), some (.list ss), some R, none, none] = .ok ((List.range ss.length).map fun i : Nat => .int (0 + (i : Int))))
    (hF : ∀ i, i < ss.length → eLc (cN 4) (iSeq (eVar 2)) bYes (eBin dIx (eVar 4) (eVar 3)) [some (.tuple [.list ss, R]), some (.list ss), some R, some (.int (i : Int)), none] = .ok (F i)) (h4 : (List.range ss.length).length ≤ 900000) : eLc (cN 3) (iCall rr [(eCall gLen [(eVar 1)])]) bYes (eLc (cN 4) (iSeq (eVar 2)) bYes (eBin dIx (eVar 4) (eVar 3))) [some (.tuple [.list ss, R]), some (.list ss), some R, none, none] = .ok (.list ((List.range ss.length).map F)) :=
  eLc_ok (fun i : Nat => .int (0 + (i : Int))) F (List.range ss.length) h3 h4 (fun i hi => by
    refine ⟨[some (.tuple [.list ss, R]), some (.list ss), some R, some (.int (0 + (i : Int))), none], rfl, rfl, ?_⟩
    rw [Int.zero_add]
    exact hF i (List.mem_range.mp hi))
theorem col_body (ss : List PyData) (R Z : PyData) (rr : List PyData → PL.R (List PyData)) (e1 : eLc (cN 3) (iCall rr [(eCall gLen [(eVar 1)])]) bYes (eLc (cN 4) (iSeq (eVar 2)) bYes (eBin dIx (eVar 4) (eVar 3))) [some (.tuple [.list ss, R]), some (.list ss), some R, none, none] = .ok Z) : runB 5 (sSeq (sAsgT .P (gT [1, 2]) (eVar 0)) (sRet (eLc (cN 3) (iCall rr [(eCall gLen [(eVar 1)])]) bYes (eLc (cN 4) (iSeq (eVar 2)) bYes (eBin dIx (eVar 4) (eVar 3)))))) [.tuple [.list ss, R]] = .ok Z := by
  simp [runB, entry, sSeq, sAsgT, gT, setAll, evM, eVar, sRet, e1]
def wgh (ws : List Int) (c : List Rat) : List Rat := List.zipWith (fun (w : Int) (r : Rat) => (w : Rat) * r) ws c
theorem zip_wsfr (ws : List Int) (c : List Rat) : zipF (ws.map PyData.int) (c.map frD) = (List.zip ws c).map fun p => .tuple [.int p.1, frD p.2] := by
  unfold zipF
  generalize frD = f
  rw [List.zipWith_map, List.zip, List.map_zipWith]
/-! what the program tells of a table -/
theorem getD_mem {α : Type} {l : List α} {i : Nat} {z : α} (h : i < l.length) : l.getD i z ∈ l := by
  simp [List.getD, h]
theorem total_L {n L : Nat} (rs : List Rat) (h : ∀ r ∈ rs, Bq n r) (hl : rs.length ≤ L) (hz : (L + 1) * (n + 1) + 1 ≤ 8000) : g_total [frL rs] = .ok (frD (qsum rs)) := (total_ok rs h hl hz).1
theorem total_B {n L : Nat} (rs : List Rat) (h : ∀ r ∈ rs, Bq n r) (hl : rs.length ≤ L) (hz : (L + 1) * (n + 1) + 1 ≤ 8000) : Bq (L * (n + 1) + 1) (qsum rs) := (total_ok rs h hl hz).2
theorem frL_map {α : Type} (f : α → Rat) (xs : List α) : PyData.list (xs.map fun x => frD (f x)) = frL (xs.map f) := by
  unfold frL
  rw [List.map_map]
  rfl
theorem len_pos {α : Type} {l : List α} (h : l ≠ []) : 1 ≤ l.length := by
  cases l with
  | nil => exact absurd rfl h
  | cons _ _ => simp
structure TabOk (n L : Nat) (ss : List PyData) (rows : List (List Rat)) : Prop where
  s : SightsOk ss
  s0 : ss ≠ []
  r0 : rows ≠ []
  row : ∀ row ∈ rows, RowOk n row ∧ row.length = ss.length
  sl : ss.length ≤ L
  rl : rows.length ≤ L
  z : (L + 1) * (n + 1) + 1 ≤ 8000
theorem TabOk.L9 {n L : Nat} {ss : List PyData} {rows : List (List Rat)} (h : TabOk n L ss rows) : L ≤ 8000 ∧ n ≤ 8000 := by
  have h1 := h.z
  have : L * 1 ≤ (L + 1) * (n + 1) := Nat.mul_le_mul (by omega) (by omega)
  have : 1 * n ≤ (L + 1) * (n + 1) := Nat.mul_le_mul (by omega) (by omega)
  omega
theorem TabOk.need {n L : Nat} {ss : List PyData} {rows : List (List Rat)} (h : TabOk n L ss rows) : g_need_table [tabD ss rows] = .ok .none :=
  needtab_ok ss rows h.s h.s0 h.r0 h.row h.sl (by have := h.L9.1; have := h.rl; omega) h.z
theorem cols_len (rows : List (List Rat)) (w : Nat) : (cols rows w).length = w := by simp [cols]
theorem mem_cols {rows : List (List Rat)} {w : Nat} {c : List Rat} (h : c ∈ cols rows w) : c.length = rows.length ∧ ∃ i, i < w ∧ c = rows.map fun row => row.getD i 0 := by
  unfold cols at h
  obtain ⟨i, hi, rfl⟩ := List.mem_map.mp h
  exact ⟨by simp, i, List.mem_range.mp hi, rfl⟩
theorem TabOk.col {n L : Nat} {ss : List PyData} {rows : List (List Rat)} (h : TabOk n L ss rows) {c : List Rat} (hc : c ∈ My.cols rows ss.length) : c.length = rows.length ∧ (∀ r ∈ c, Bq n r) ∧ (∀ r ∈ c, 0 ≤ r) := by
  obtain ⟨h1, i, hi, rfl⟩ := mem_cols hc
  refine ⟨h1, fun r hr => ?_, fun r hr => ?_⟩
  · obtain ⟨row, hrow, rfl⟩ := List.mem_map.mp hr
    obtain ⟨ok, len⟩ := h.row row hrow
    have : row.getD i 0 ∈ row := by
      exact getD_mem (by omega)
    exact ok.b _ this
  · obtain ⟨row, hrow, rfl⟩ := List.mem_map.mp hr
    obtain ⟨ok, len⟩ := h.row row hrow
    have : row.getD i 0 ∈ row := by
      exact getD_mem (by omega)
    exact ok.p _ this
structure WsOk (m : Nat) (ws : List Int) : Prop where
  p : ∀ w ∈ ws, 0 ≤ w
  s : ws.sum ≠ 0
  b : ∀ w ∈ ws, w.natAbs < 2 ^ m
  sb : ws.sum.natAbs < 2 ^ m
  m1 : 1 ≤ m
  l : ws.length ≤ 8000
theorem WsOk.need {m : Nat} {ws : List Int} (h : WsOk m ws) : g_need_weights [wsD ws, .int ws.length] = .ok .none := needw_ok ws h.p h.s (by have := h.l; omega)
theorem gLen_map {α : Type} (f : α → PyData) (xs : List α) : gLen [.list (xs.map f)] = .ok (.int xs.length) := by rw [gLen_list, List.length_map]
theorem gLen_ws (ws : List Int) : gLen [wsD ws] = .ok (.int ws.length) := gLen_map _ ws
theorem gLen_rows (rows : List (List Rat)) : gLen [rowsD rows] = .ok (.int rows.length) := gLen_map _ rows
theorem tab_0 (ss : List PyData) (rows : List (List Rat)) : dIx (tabD ss rows) (.int 0) = .ok (.list ss) := dIx_t0
theorem tab_1 (ss : List PyData) (rows : List (List Rat)) : dIx (tabD ss rows) (.int 1) = .ok (rowsD rows) := dIx_t1
theorem wgh_mem {n m : Nat} {ws : List Int} {c : List Rat} (hw : ∀ w ∈ ws, w.natAbs < 2 ^ m) (hm : 1 ≤ m) (hc : ∀ r ∈ c, Bq n r) {r : Rat} (h : r ∈ wgh ws c) : Bq (m + n) r := by
  unfold wgh at h
  rw [← List.map_uncurry_zip_eq_zipWith] at h
  obtain ⟨p, hp, rfl⟩ := List.mem_map.mp h
  exact bq_mul (bq_int p.1 (hw _ (List.of_mem_zip hp).1) hm) (hc _ (List.of_mem_zip hp).2)
theorem wgh_len {ws : List Int} {c : List Rat} (h : c.length = ws.length) : (wgh ws c).length = ws.length := by
  unfold wgh
  rw [List.length_zipWith]
  omega
theorem ne_nil_of_len {α β : Type} {a : List α} {b : List β} (h : a.length = b.length) (hb : b ≠ []) : a ≠ [] := fun z => by
  subst z
  cases b with
  | nil => exact hb rfl
  | cons _ _ => cases h
noncomputable def behindQ (ss : List PyData) (rows : List (List Rat)) (ws : List Int) : Rat := qsum ((cols rows ss.length).map fun c => qmax (wgh ws c)) / (ws.sum : Rat)
noncomputable def factorQ (ss : List PyData) (rows : List (List Rat)) : Rat := qsum ((cols rows ss.length).map qmax)
theorem qmax_bq {n : Nat} {c : List Rat} (h : ∀ r ∈ c, Bq n r) (h0 : c ≠ []) : Bq n (qmax c) := h _ (qmax_mem h0)
theorem TabOk.nn {n L : Nat} {ss : List PyData} {rows : List (List Rat)} (h : TabOk n L ss rows) : n + n ≤ 8000 := by
  have e : (L + 1) * (n + 1) = L * (n + 1) + (n + 1) := Nat.succ_mul _ _
  have : 1 ≤ L := by have := h.rl; have := len_pos h.r0; omega
  have : 1 * (n + 1) ≤ L * (n + 1) := Nat.mul_le_mul_right _ this
  have := h.z
  omega
/-- weights for a table -/
structure WtOk (n m L : Nat) (ss : List PyData) (rows : List (List Rat)) (ws : List Int) : Prop where
  t : TabOk n L ss rows
  w : WsOk m ws
  l : rows.length = ws.length
  z : (L + 1) * (m + n + 1) + 1 + m ≤ 8000
theorem WtOk.zz {n m L : Nat} {ss : List PyData} {rows : List (List Rat)} {ws : List Int} (h : WtOk n m L ss rows ws) : (m + n) + (m + n) ≤ 8000 ∧ L * (m + n + 1) + 1 + m ≤ 8000 := by
  have e : (L + 1) * (m + n + 1) = L * (m + n + 1) + (m + n + 1) := Nat.succ_mul _ _
  have : 1 ≤ L := by have := h.t.rl; have := len_pos h.t.r0; omega
  have : 1 * (m + n + 1) ≤ L * (m + n + 1) := Nat.mul_le_mul_right _ this
  have := h.z
  omega
theorem gMaxL_ws (ws : List Int) (h : ws ≠ []) : gMaxL [wsD ws] = .ok (.int (maxL ws)) := by
  unfold gMaxL wsD
  dsimp only
  rw [intsOf_map]
  cases ws with
  | nil => exact absurd rfl h
  | cons _ _ => rfl
theorem gMinL_ws (ws : List Int) (h : ws ≠ []) : gMinL [wsD ws] = .ok (.int (minL ws)) := by
  unfold gMinL wsD
  dsimp only
  rw [intsOf_map]
  cases ws with
  | nil => exact absurd rfl h
  | cons _ _ => rfl
theorem WsOk.ne {m : Nat} {ws : List Int} (h : WsOk m ws) : ws ≠ [] := fun z => h.s (by rw [z]; rfl)
theorem sum_nonneg : ∀ {ws : List Int}, (∀ w ∈ ws, 0 ≤ w) → 0 ≤ ws.sum
  | [], _ => by simp
  | w :: ws, h => by
    have := sum_nonneg fun x hx => h x (List.mem_cons_of_mem _ hx)
    have := h w List.mem_cons_self
    simp only [List.sum_cons]
    omega
theorem WsOk.pos {m : Nat} {ws : List Int} (h : WsOk m ws) : 0 < ws.sum := by
  have := sum_nonneg h.p
  have := h.s
  omega
noncomputable def aheadQ (ws : List Int) : Rat := (maxL ws : Rat) / (ws.sum : Rat)
/-! wagers -/
noncomputable def dotQ (rs : List Rat) (g : List Int) : Rat := qsum (List.zipWith (fun (r : Rat) (i : Int) => r * (i : Rat)) rs g)
noncomputable def wgD (wg : List (List Int)) : PyData := .list (wg.map wsD)
@[simp] theorem items_wg (wg : List (List Int)) : itemsOf (wgD wg) = .ok (wg.map wsD) := rfl
theorem mem_zipW {α β γ : Type} {f : α → β → γ} {xs : List α} {ys : List β} {z : γ} (h : z ∈ List.zipWith f xs ys) : ∃ x ∈ xs, ∃ y ∈ ys, z = f x y := by
  rw [← List.map_uncurry_zip_eq_zipWith] at h
  obtain ⟨p, hp, rfl⟩ := List.mem_map.mp h
  exact ⟨p.1, (List.of_mem_zip hp).1, p.2, (List.of_mem_zip hp).2, rfl⟩
structure WgOk (k many : Nat) (wg : List (List Int)) : Prop where
  n : wg ≠ []
  l : ∀ g ∈ wg, g.length = many
  b : ∀ g ∈ wg, ∀ i ∈ g, i.natAbs < 2 ^ k
  k1 : 1 ≤ k
  s : wg.length ≤ 8000
theorem shaped_wg (wg : List (List Int)) : SeqAt.shaped (wgD wg) = true := shaped_of (n := 2) (shp_list (shpA_of fun d hd => by
  obtain ⟨g, _, rfl⟩ := List.mem_map.mp hd
  exact shp_list (shpA_ints 0 g))) (by decide)
noncomputable def wonAQ (ws : List Int) (wg : List (List Int)) : Rat := qmax (wg.map fun g => dotQ (ws.map fun w : Int => (w : Rat)) g) / (ws.sum : Rat)
noncomputable def wonBQ (ss : List PyData) (rows : List (List Rat)) (ws : List Int) (wg : List (List Int)) : Rat := qsum ((cols rows ss.length).map fun c => qmax (wg.map fun g => dotQ (wgh ws c) g)) / (ws.sum : Rat)
/-! what the law draws: tables, weights, guesses -/
noncomputable def drw (c k : Int) : Int := Classical.choose (drawn_ok c k)
theorem drw_eq (c k : Int) : g__law_drawn [.int c, .int k] = .ok (.int (drw c k)) := (Classical.choose_spec (drawn_ok c k)).1
theorem drw_0 (c k : Int) : 0 ≤ drw c k := (Classical.choose_spec (drawn_ok c k)).2.1
theorem drw_b (c k : Int) : drw c k < 340282366920938463463374607431768211507 := (Classical.choose_spec (drawn_ok c k)).2.2
theorem dIx_ints (xs : List Int) (i : Int) (h0 : 0 ≤ i) (h1 : i < xs.length) : dIx (.list (xs.map .int)) (.int i) = .ok (.int (xs.getD i.toNat 0)) := by
  have e := dIx_mapD PyData.int xs i.toNat 0 (by omega)
  rwa [show ((i.toNat : Nat) : Int) = i by omega] at e
def pk6 (x : Int) : Int := [0, 1, 2, 0, 3, 1].getD (x % 6).toNat 0
theorem pk6_eq (x : Int) : dIx (.list [.int 0, .int 1, .int 2, .int 0, .int 3, .int 1]) (.int (x % 6)) = .ok (.int (pk6 x)) := dIx_ints [0, 1, 2, 0, 3, 1] (x % 6) (by omega) (by simp; omega)
theorem pk6_b (x : Int) : 0 ≤ pk6 x ∧ pk6 x ≤ 3 := by
  unfold pk6
  have h : (x % 6).toNat = 0 ∨ (x % 6).toNat = 1 ∨ (x % 6).toNat = 2 ∨ (x % 6).toNat = 3 ∨ (x % 6).toNat = 4 ∨ (x % 6).toNat = 5 := by omega
  rcases h with h | h | h | h | h | h <;> rw [h] <;> decide
def pk7 (x : Int) : Int := [0, 1, 2, 5, 0, 40, 1].getD (x % 7).toNat 0
theorem pk7_eq (x : Int) : dIx (.list [.int 0, .int 1, .int 2, .int 5, .int 0, .int 40, .int 1]) (.int (x % 7)) = .ok (.int (pk7 x)) := dIx_ints [0, 1, 2, 5, 0, 40, 1] (x % 7) (by omega) (by simp; omega)
theorem pk7_b (x : Int) : 0 ≤ pk7 x ∧ pk7 x ≤ 40 := by
  unfold pk7
  have h : (x % 7).toNat = 0 ∨ (x % 7).toNat = 1 ∨ (x % 7).toNat = 2 ∨ (x % 7).toNat = 3 ∨ (x % 7).toNat = 4 ∨ (x % 7).toNat = 5 ∨ (x % 7).toNat = 6 := by omega
  rcases h with h | h | h | h | h | h | h <;> rw [h] <;> decide
theorem mem_set {α : Type} {l : List α} {i : Nat} {a x : α} (h : x ∈ l.set i a) : x ∈ l ∨ x = a := by
  rcases List.mem_or_eq_of_mem_set h with h | h
  · exact .inl h
  · exact .inr h
theorem sum_le {b : Int} : ∀ {ns : List Int}, (∀ n ∈ ns, n ≤ b) → ns.sum ≤ b * ns.length
  | [], _ => by simp
  | n :: ns, h => by
    have h1 := sum_le fun x hx => h x (List.mem_cons_of_mem _ hx)
    have h2 := h n List.mem_cons_self
    rw [List.sum_cons, List.length_cons, Int.natCast_add, Int.mul_add]
    omega
theorem sum_ge_mem : ∀ {ns : List Int} {n : Int}, (∀ n ∈ ns, 0 ≤ n) → n ∈ ns → n ≤ ns.sum
  | m :: ns, n, h, hm => by
    have h1 := sum_nonneg fun x hx => h x (List.mem_cons_of_mem _ hx)
    have h2 := h m List.mem_cons_self
    rw [List.sum_cons]
    rcases List.mem_cons.mp hm with rfl | hm
    · omega
    · have := sum_ge_mem (fun x hx => h x (List.mem_cons_of_mem _ hx)) hm
      omega
noncomputable def fracs (ns : List Int) : List Rat := ns.map fun n : Int => (n : Rat) / (ns.sum : Rat)
theorem qsum_div (s : Rat) : ∀ ns : List Int, qsum (ns.map fun n : Int => (n : Rat) / s) = (ns.sum : Rat) / s
  | [] => by simp [qsum, Rat.div_def]
  | n :: ns => by
    rw [List.map_cons, qsum, qsum_div s ns, List.sum_cons, Rat.intCast_add, Rat.div_def, Rat.div_def, Rat.div_def, ← Rat.add_mul]
theorem bq_frac {k : Nat} (n s : Int) (hs : 0 < s) (h1 : n.natAbs < 2 ^ k) (h2 : s.natAbs < 2 ^ k) : Bq k ((n : Rat) / (s : Rat)) := by
  rw [← mkRat_div n s hs]
  exact bq_mk (by omega) h1 (by omega)
theorem div_nonneg' (n s : Int) (hn : 0 ≤ n) (hs : 0 < s) : (0 : Rat) ≤ (n : Rat) / (s : Rat) := by
  rw [Rat.div_def]
  exact Rat.mul_nonneg (Rat.intCast_nonneg.mpr hn) (Rat.le_of_lt (Rat.inv_pos.mpr (Rat.intCast_pos.mpr hs)))
theorem fracs_ok {k : Nat} {ns : List Int} (h : ∀ n ∈ ns, 0 ≤ n) (hs : 0 < ns.sum) (hb : ns.sum.natAbs < 2 ^ k) : RowOk k (fracs ns) := by
  refine ⟨fun r hr => ?_, fun r hr => ?_, ?_⟩
  · obtain ⟨n, hn, rfl⟩ := List.mem_map.mp hr
    have := h n hn
    have := sum_ge_mem h hn
    exact bq_frac n _ hs (by omega) hb
  · obtain ⟨n, hn, rfl⟩ := List.mem_map.mp hr
    exact div_nonneg' n _ (h n hn) hs
  · unfold fracs
    rw [qsum_div, Rat.div_def, Rat.mul_inv_cancel]
    intro z
    have := Rat.intCast_eq_zero_iff.mp z
    omega
theorem ixN_ok {n : Nat} {i : Int} (h0 : 0 ≤ i) (h1 : i < n) : ixN n i = some i.toNat := by
  unfold ixN
  rw [if_pos h0, if_pos h1]
theorem made_ok {K : Nat} (hK : K ≤ 8000) (a b : Int) (hb : 0 < b) (hz : b.natAbs < 2 ^ K) : g__law_made [.int a, .int b] = .ok (frD ((a : Rat) / (b : Rat))) := by
  rw [← mkRat_div a b hb]
  exact lmade_d a b hb hK hz
noncomputable def rowL (more : Int) (wide j : Nat) : List Int := ((List.range wide).map fun k : Nat => pk6 (drw more (9 * (j : Int) + k))).set (drw more (9 * (j : Int) + 8) % wide).toNat (1 + drw more (9 * (j : Int) + 8) / 64 % 3)
theorem rowL_len (more : Int) (wide j : Nat) : (rowL more wide j).length = wide := by simp [rowL]
theorem rowL_b {more : Int} {wide j : Nat} {n : Int} (h : n ∈ rowL more wide j) : 0 ≤ n ∧ n ≤ 3 := by
  rcases mem_set h with h | h
  · obtain ⟨k, _, rfl⟩ := List.mem_map.mp h
    exact pk6_b _
  · omega
theorem rowL_s {more : Int} {wide j : Nat} (hw : 1 ≤ wide) (hw9 : wide ≤ 9) : 0 < (rowL more wide j).sum ∧ (rowL more wide j).sum < 32 := by
  have h1 : (1 + drw more (9 * (j : Int) + 8) / 64 % 3) ∈ rowL more wide j := by
    unfold rowL
    apply List.mem_set
    simp
    have := drw_0 more (9 * (j : Int) + 8)
    have := Int.emod_nonneg (drw more (9 * (j : Int) + 8)) (b := wide) (by omega)
    have := Int.emod_lt_of_pos (drw more (9 * (j : Int) + 8)) (b := wide) (by omega)
    omega
  have h2 := sum_ge_mem (fun n hn => (rowL_b hn).1) h1
  have h3 := sum_le (b := 3) (ns := rowL more wide j) fun n hn => (rowL_b hn).2
  rw [rowL_len] at h3
  omega
noncomputable def sgt (more : Int) (k : Nat) : PyData := if more % 2 = 0 then .tuple [.int k] else .tuple [.int (2 * (k : Int)), .int 1]
theorem sgt_shp (more : Int) (k : Nat) : Shp 1 (sgt more k) := by
  unfold sgt
  split
  · exact shp_tuple (shpA_cons (shp_int _ _) (shpA_nil _))
  · exact shp_tuple (shpA_cons (shp_int _ _) (shpA_cons (shp_int _ _) (shpA_nil _)))
theorem sgt_lt (more : Int) (i j : Nat) (h : i < j) : ltD (sgt more i) (sgt more j) = some true := by
  have n : ¬ (i : Int) = j := by omega
  have n2 : ¬ (2 * (i : Int)) = 2 * j := by omega
  unfold sgt
  split
  · simp [ltD, ltL, PyData.eqv, n, h]
  · simp [ltD, ltL, PyData.eqv, n2]
    omega
theorem rising_rng (f : Nat → PyData) (h : ∀ i, ltD (f i) (f (i + 1)) = some true) : ∀ (n s : Nat), Rising ((List.range' s n).map f)
  | 0, _ => trivial
  | 1, _ => trivial
  | n + 2, s => by
    have := rising_rng f h (n + 1) (s + 1)
    simp only [List.range'_succ, List.map_cons] at this ⊢
    exact ⟨h s, this⟩
theorem sgts_ok (more : Int) (wide : Nat) : SightsOk ((List.range wide).map (sgt more)) := by
  refine ⟨⟨1, by decide, fun s hs => ?_⟩, ?_⟩
  · obtain ⟨k, _, rfl⟩ := List.mem_map.mp hs
    exact sgt_shp more k
  · rw [List.range_eq_range']
    exact rising_rng _ (fun i => sgt_lt more i (i + 1) (by omega)) wide 0
theorem sgt_ix (more : Int) (k : Nat) : dIx (.list [.tuple [.int k], .tuple [.int (2 * (k : Int)), .int 1]]) (.int (more % 2)) = .ok (sgt more k) := by
  unfold sgt
  have h : more % 2 = 0 ∨ more % 2 = 1 := by omega
  rcases h with h | h
  · rw [h, if_pos rfl]
    exact dIx_l0
  · rw [h, if_neg (by decide)]
    exact dIx_l1
theorem gSum_ints (ns : List Int) : gSum [.list (ns.map .int)] = .ok (.int ns.sum) := gSum_ws ns
noncomputable def tRows (more : Int) (rows wide : Nat) : List (List Rat) := (List.range rows).map fun j => fracs (rowL more wide j)
noncomputable def tSgs (more : Int) (wide : Nat) : List PyData := (List.range wide).map (sgt more)
theorem lrow_ok (more : Int) (wide j : Nat) (hw : 1 ≤ wide) (hw9 : wide ≤ 9) : mapL (fun d => (gSum [.list ((rowL more wide j).map .int)]).bind fun s => g__law_made [d, s]) ((rowL more wide j).map .int) = .ok (frL (fracs (rowL more wide j))) := by
  obtain ⟨s1, s2⟩ := rowL_s (more := more) (j := j) hw hw9
  rw [gSum_ints]
  rw [mapL_ok (enc := PyData.int) (g := fun n : Int => frD ((n : Rat) / ((rowL more wide j).sum : Rat))) (fun n hn => by
    rw [R.bind_ok]
    exact made_ok (K := 5) (by decide) n _ s1 (by omega)) (by rw [rowL_len]; omega), frL_map]
  rfl
theorem foldl_app {α β : Type} (f : α → β) : ∀ (xs : List α) (acc : List β), xs.foldl (fun acc x => acc ++ [f x]) acc = acc ++ xs.map f
  | [], acc => by simp
  | x :: xs, acc => by rw [List.foldl_cons, foldl_app f xs]; simp
theorem tSgs_len (more : Int) (wide : Nat) : (tSgs more wide).length = wide := by simp [tSgs]
theorem tRows_len (more : Int) (rows wide : Nat) : (tRows more rows wide).length = rows := by simp [tRows]
theorem fracs_len (ns : List Int) : (fracs ns).length = ns.length := by simp [fracs]
theorem ltab_ok (more : Int) (rows wide L : Nat) (hr1 : 1 ≤ rows) (hr : rows ≤ L) (hw : 1 ≤ wide) (hw9 : wide ≤ L) (hL : L ≤ 9) : TabOk 5 L (tSgs more wide) (tRows more rows wide) := by
  refine ⟨sgts_ok more wide, fun z => ?_, fun z => ?_, fun row hrow => ?_, by rw [tSgs_len]; omega, by rw [tRows_len]; omega, by omega⟩
  · have := tSgs_len more wide
    rw [z] at this
    simp at this
    omega
  · have := tRows_len more rows wide
    rw [z] at this
    simp at this
    omega
  · obtain ⟨j, _, rfl⟩ := List.mem_map.mp hrow
    obtain ⟨s1, s2⟩ := rowL_s (more := more) (j := j) hw (by omega)
    exact ⟨fracs_ok (fun n hn => (rowL_b hn).1) s1 (by omega), by rw [fracs_len, rowL_len, tSgs_len]⟩
/-! weights -/
noncomputable def wtL (more : Int) (many : Nat) : List Int := ((List.range many).map fun j : Nat => pk7 (drw more (50 + (j : Int)))).set (drw more 49 % many).toNat (1 + drw more 49 / 64 % 9)
theorem wtL_len (more : Int) (many : Nat) : (wtL more many).length = many := by simp [wtL]
theorem wtL_b {more : Int} {many : Nat} {n : Int} (h : n ∈ wtL more many) : 0 ≤ n ∧ n ≤ 40 := by
  rcases mem_set h with h | h
  · obtain ⟨k, _, rfl⟩ := List.mem_map.mp h
    exact pk7_b _
  · omega
theorem wtL_ok (more : Int) (many : Nat) (hw : 1 ≤ many) (hw9 : many ≤ 12) : WsOk 9 (wtL more many) := by
  have h1 : (1 + drw more 49 / 64 % 9) ∈ wtL more many := by
    unfold wtL
    apply List.mem_set
    simp
    have := Int.emod_nonneg (drw more 49) (b := many) (by omega)
    have := Int.emod_lt_of_pos (drw more 49) (b := many) (by omega)
    omega
  have h2 := sum_ge_mem (fun n hn => (wtL_b hn).1) h1
  have h3 := sum_le (b := 40) (ns := wtL more many) fun n hn => (wtL_b hn).2
  rw [wtL_len] at h3
  exact ⟨fun n hn => (wtL_b hn).1, by omega, fun n hn => by have := wtL_b hn; omega, by omega, by decide, by rw [wtL_len]; omega⟩
theorem lweights_ok (more : Int) (many : Nat) (hw : 1 ≤ many) (hw9 : many ≤ 1000) : g__law_weights [.int more, .int many] = .ok (wsD (wtL more many)) := by
  have r1 := rng1_map many (by omega)
  have d7 : ∀ x : Int, dMod (.int x) (.int 7) = .ok (.int (x % 7)) := fun x => dMod_int (by decide)
  have d9 : ∀ x : Int, dMod (.int x) (.int 9) = .ok (.int (x % 9)) := fun x => dMod_int (by decide)
  have dw : ∀ x : Int, dMod (.int x) (.int (many : Int)) = .ok (.int (x % many)) := fun x => dMod_int (by omega)
  have d64 : ∀ x : Int, dDiv (.int x) (.int 64) = .ok (.int (x / 64)) := fun x => dDiv_int (divOk_small (by decide) (by decide))
  have ix : ixN many (drw more 49 % many) = some (drw more 49 % many).toNat := ixN_ok (Int.emod_nonneg _ (by omega)) (Int.emod_lt_of_pos _ (by omega))
  have h : fb__law_weights [.pu (.int more), .pu (.int many), .no, .no] = .rt (wsD (wtL more many)) := by
    unfold fb__law_weights
    refine seq_nx (e := [.pu (.int more), .pu (.int many), .ow (.list (((List.range many).map fun j : Nat => pk7 (drw more (50 + (j : Int)))).map .int)), .no]) ?_ ?_
    · simp [runB, entry, sSeq, sAsg, sAsgT, sRet, sRetN, sIf, sNil, sOwn, sFor, sFrz, sExpr, sApp, sExt, sPar, sRaise, evM, evML, eBin, eVar, eC, eUn, eCall, eLst, eTup, eAnd, eOr, eNot, eIf, eSl, eOpt, eChain, aAll, bVal, bNot, bAnd, bOr, bC, bYes, iSeq, iCall, gN, gT, gL, setAll, eLc_N, eLc_T, frz, r1]
      rw [mapL_ok (g := fun j : Nat => PyData.int (pk7 (drw more (50 + (j : Int))))) (fun k hk => by simp [drw_eq, d7, pk7_eq]) (by simp; omega)]
      rfl
    refine seq_nx (e := [.pu (.int more), .pu (.int many), .ow (wsD (wtL more many)), .no]) ?_ ?_
    · unfold wsD wtL
      simp [sPut, runB, entry, sSeq, sAsg, sAsgT, sRet, sRetN, sIf, sNil, sOwn, sFor, sFrz, sExpr, sApp, sExt, sPar, sRaise, evM, evML, eBin, eVar, eC, eUn, eCall, eLst, eTup, eAnd, eOr, eNot, eIf, eSl, eOpt, eChain, aAll, bVal, bNot, bAnd, bOr, bC, bYes, iSeq, iCall, gN, gT, gL, setAll, eLc_N, eLc_T, frz, drw_eq, d9, dw, d64, ix]
    simp [runB, entry, sSeq, sAsg, sAsgT, sRet, sRetN, sIf, sNil, sOwn, sFor, sFrz, sExpr, sApp, sExt, sPar, sRaise, evM, evML, eBin, eVar, eC, eUn, eCall, eLst, eTup, eAnd, eOr, eNot, eIf, eSl, eOpt, eChain, aAll, bVal, bNot, bAnd, bOr, bC, bYes, iSeq, iCall, gN, gT, gL, setAll, eLc_N, eLc_T, frz]
  rw [g__law_weights_eq]
  unfold runB
  have e : entry 4 [PyData.int more, PyData.int many] = [.pu (.int more), .pu (.int many), .no, .no] := rfl
  rw [e, h]
  rfl
noncomputable def gsL (more at' : Int) (many : Nat) : List Int := (List.range many).map fun j : Nat => drw more (at' + (j : Int)) % 21 - 10
theorem gsL_len (more at' : Int) (many : Nat) : (gsL more at' many).length = many := by simp [gsL]
theorem gsL_b {more at' : Int} {many : Nat} {n : Int} (h : n ∈ gsL more at' many) : -10 ≤ n ∧ n ≤ 10 := by
  obtain ⟨k, _, rfl⟩ := List.mem_map.mp h
  omega
/-! the turns of a law -/
theorem law_turns (len K : Nat) (hK : 1 ≤ K) : ∃ r : Nat, r ≤ K ∧ 1 ≤ r ∧ (gMin2 [.int K, .int len]).bind (fun x => gMax2 [.int 1, x]) = .ok (.int (r : Int)) := by
  refine ⟨max 1 (min K len), by omega, by omega, ?_⟩
  rw [gMin2_int, R.bind_ok, gMax2_int]
  congr 2
  split <;> split <;> omega
noncomputable def celV (ns : List Int) (k : Int) : Int := if h : ns.length ≤ 63 ∧ 0 ≤ k then Classical.choose (cell_ok ns h.1 k h.2) else 0
theorem celV_eq (ns : List Int) (k : Int) (hl : ns.length ≤ 63) (hk : 0 ≤ k) : g__law_cell [.list (ns.map .int), .int k] = .ok (.int (celV ns k)) := by
  unfold celV
  rw [dif_pos ⟨hl, hk⟩]
  exact Classical.choose_spec (cell_ok ns hl k hk)
theorem sgt_q (more : Int) (a b : Nat) : PyData.eqv (sgt more a) (sgt more b) = decide (a = b) := by
  unfold sgt
  by_cases e : a = b
  · subst e
    split <;> simp [PyData.eqv, PyData.eqvAll]
  · have e1 : ¬ (a : Int) = b := by omega
    have e2 : ¬ 2 * (a : Int) = 2 * b := by omega
    split <;> simp [PyData.eqv, PyData.eqvAll, e, e1, e2]
theorem rep_ok (c : Int) (many : Nat) (hc : 1 ≤ c) (hc2 : c ≤ 9) (hm : 1 ≤ many) (hm2 : many ≤ 12) : WsOk 9 (List.replicate many c) := by
  have s : (List.replicate many c).sum = c * many := by
    clear hm hm2
    induction many with
    | zero => simp
    | succ n ih => rw [List.replicate_succ, List.sum_cons, ih, Int.natCast_add, Int.mul_add]; omega
  have b1 : 1 * many ≤ c * many := Int.mul_le_mul_of_nonneg_right hc (by omega)
  have b2 : c * many ≤ 9 * many := Int.mul_le_mul_of_nonneg_right hc2 (by omega)
  refine ⟨fun w hw => ?_, by rw [s]; omega, fun w hw => ?_, by rw [s]; omega, by decide, by simp; omega⟩
  · have := List.eq_of_mem_replicate hw; omega
  · have := List.eq_of_mem_replicate hw; omega
theorem rep_D (c : Int) (many : Nat) (hm2 : many ≤ 1000) : dMul (.list [.int c]) (.int (many : Int)) = .ok (wsD (List.replicate many c)) := by
  have hlim := lim_eq
  unfold dMul
  dsimp only
  rw [if_pos ⟨by rw [szl_eq]; simp; omega, by omega, by omega⟩]
  congr 2
  rw [Int.toNat_natCast, List.flatten_replicate_singleton, List.map_replicate]
/-! lists of fractions that are alike -/
theorem eqvAll_fr : ∀ a b : List Rat, PyData.eqvAll (a.map frD) (b.map frD) = decide (a = b)
  | [], [] => by simp [PyData.eqvAll]
  | [], y :: b => by simp [PyData.eqvAll]
  | x :: a, [] => by simp [PyData.eqvAll]
  | x :: a, y :: b => by
    rw [List.map_cons, List.map_cons, PyData.eqvAll, eqv_fr, eqvAll_fr a b]
    by_cases h1 : x = y <;> by_cases h2 : a = b <;> simp [h1, h2]
theorem eqv_frL (a b : List Rat) : PyData.eqv (frL a) (frL b) = decide (a = b) := by
  unfold frL
  rw [PyData.eqv, eqvAll_fr]
theorem eqvAll_frL : ∀ a b : List (List Rat), PyData.eqvAll (a.map frL) (b.map frL) = decide (a = b)
  | [], [] => by simp [PyData.eqvAll]
  | [], y :: b => by simp [PyData.eqvAll]
  | x :: a, [] => by simp [PyData.eqvAll]
  | x :: a, y :: b => by
    rw [List.map_cons, List.map_cons, PyData.eqvAll, eqv_frL, eqvAll_frL a b]
    by_cases h1 : x = y <;> by_cases h2 : a = b <;> simp [h1, h2]
theorem rowsD_eq (rows : List (List Rat)) : rowsD rows = .list (rows.map frL) := rfl
theorem eqv_rows (a b : List (List Rat)) : PyData.eqv (rowsD a) (rowsD b) = decide (a = b) := by
  rw [rowsD_eq, rowsD_eq, PyData.eqv, eqvAll_frL]
theorem shp_frL (c : List Rat) : Shp 2 (frL c) := shp_list (shpA_of fun d hd => by
  obtain ⟨r, _, rfl⟩ := List.mem_map.mp hd
  exact shp_fr 0 r)
theorem shp_rows (rows : List (List Rat)) : Shp 3 (rowsD rows) := by
  rw [rowsD_eq]
  exact shp_list (shpA_of fun d hd => by
    obtain ⟨r, _, rfl⟩ := List.mem_map.mp hd
    exact shp_frL r)
theorem dEq_rows (a b : List (List Rat)) : dEq (rowsD a) (rowsD b) = .ok (.bool (decide (a = b))) := by
  rw [dEq_shp (shaped_of (shp_rows a) (by decide)) (shaped_of (shp_rows b) (by decide)), eqv_rows]
theorem dNe_frLs (a b : List Rat) : dNe (frL a) (frL b) = .ok (.bool (!decide (a = b))) := by
  rw [dNe_shp (shaped_of (shp_frL a) (by decide)) (shaped_of (shp_frL b) (by decide)), eqv_frL]
theorem dNe_bool (a b : Bool) : dNe (.bool a) (.bool b) = .ok (.bool (!decide (a = b))) := by
  rw [dNe_shp (shaped_bool a) (shaped_bool b)]
  cases a <;> cases b <;> rfl
theorem gAll_map {α : Type} (p : α → Bool) (xs : List α) : gAll [.list (xs.map fun x => PyData.bool (p x))] = .ok (.bool (xs.all p)) := by
  unfold gAll
  dsimp only
  have : xs.map (fun x => PyData.bool (p x)) = (xs.map p).map PyData.bool := by rw [List.map_map]; rfl
  rw [this, boolsOf_map]
  simp
/-- a loop that may go home early -/
theorem forF_all {α : Type} {tg : GF} {body : SF} (enc : α → PyData) (p : α → Bool) (d : PyData) (I : Ev → Prop) : ∀ (xs : List α) (env : Ev), I env → (∀ x ∈ xs, ∀ env, I env → ∃ e1, tg (enc x) env = some e1 ∧ (p x = true → ∃ e2, body e1 = .nx e2 ∧ I e2) ∧ (p x = false → body e1 = .rt d)) → ∃ e, I e ∧ forF tg body (xs.map enc) env = if xs.all p = true then .nx e else .rt d
  | [], env, h, _ => ⟨env, h, rfl⟩
  | x :: xs, env, h, hs => by
    obtain ⟨e1, h1, h2, h3⟩ := hs x List.mem_cons_self env h
    cases hp : p x with
    | true =>
      obtain ⟨e2, h4, h5⟩ := h2 hp
      obtain ⟨e, h6, h7⟩ := forF_all enc p d I xs e2 h5 fun y hy => hs y (List.mem_cons_of_mem _ hy)
      refine ⟨e, h6, ?_⟩
      rw [List.map_cons, forF, h1]
      dsimp only
      rw [h4, Out.loop_nx, h7]
      simp [hp]
    | false =>
      refine ⟨env, h, ?_⟩
      rw [List.map_cons, forF, h1]
      dsimp only
      rw [h3 hp]
      simp [hp, Out.loop]
theorem dIsi_list (d : PyData) : dIsi "list" d = .ok (.bool (is_list d)) := isi_list d
/-! posts -/
noncomputable def whl (ws : List Int) (p : PyData × List Rat) : Rat := qsum (wgh ws p.2)
noncomputable def shr (ws : List Int) (p : PyData × List Rat) : List Rat := (wgh ws p.2).map fun r => r / whl ws p
noncomputable def postD (ws : List Int) (p : PyData × List Rat) : PyData := .tuple [p.1, frD (whl ws p / (ws.sum : Rat)), frL (shr ws p)]
noncomputable def postL (ss : List PyData) (rows : List (List Rat)) (ws : List Int) : List (PyData × List Rat) := (ss.zip (cols rows ss.length)).filter fun p => !decide (whl ws p = 0)
theorem zip_id {β : Type} (ss : List PyData) (g : β → PyData) (ys : List β) : zip2 [.list ss, .list (ys.map g)] = .ok ((ss.zip ys).map fun p => .tuple [p.1, g p.2]) := by
  have := zip2_map id g ss ys
  simpa using this
theorem filter_fold {α : Type} (p : α → Bool) : ∀ (xs acc : List α), xs.foldl (fun acc x => if p x = true then acc ++ [x] else acc) acc = acc ++ xs.filter p
  | [], acc => by simp
  | x :: xs, acc => by
    rw [List.foldl_cons, filter_fold p xs]
    by_cases h : p x = true
    · rw [if_pos h, List.filter_cons_of_pos h]
      simp
    · rw [if_neg h, List.filter_cons_of_neg h]
theorem nought_fr : c_NOUGHT = frD 0 := fr_zero
theorem one_fr : c_ONE = frD 1 := fr_one
/-! the law's own reckoning -/
theorem fr_inv (s : Int) (hs : 0 < s) : PyData.tuple [.int 1, .int s] = frD ((s : Rat)⁻¹) := by
  rw [frD_eq, Rat.num_inv, Rat.den_inv, Rat.num_intCast, Rat.den_intCast, if_neg (by omega), Int.sign_eq_one_of_pos hs]
  have e1 : ((s.natAbs : Nat) : Int) = s := by omega
  rw [e1]
  simp
def gI (ws : List Int) (j : Nat) : Int := ws.getD j 0
def gQ (row : List Rat) (j : Nat) : Rat := row.getD j 0
def colQ (rows : List (List Rat)) (i : Nat) : List Rat := rows.map fun row => gQ row i
theorem cols_eq (rows : List (List Rat)) (w : Nat) : cols rows w = (List.range w).map (colQ rows) := rfl
theorem gI_mem {ws : List Int} {j : Nat} (h : j < ws.length) : gI ws j ∈ ws := getD_mem h
theorem gQ_mem {ws : List Rat} {j : Nat} (h : j < ws.length) : gQ ws j ∈ ws := getD_mem h
/-- the law's column: a weight times a guess times the row's fraction -/
theorem best_col (rows : List (List Rat)) (ws g : List Int) (at' : Nat) (hw : rows.length = ws.length) (hg : g.length = ws.length) :
    rows.zipIdx.map (fun p => ((gI ws p.2 * gI g p.2 : Int) : Rat) * gQ p.1 at') = List.zipWith (fun (r : Rat) (i : Int) => r * (i : Rat)) (wgh ws (colQ rows at')) g := by
  apply List.ext_getElem
  · simp [wgh, colQ]
    omega
  · intro i h1 h2
    simp at h1
    simp [wgh, colQ, gI, gQ, List.getD, h1, show i < ws.length by omega, show i < g.length by omega]
    grind
theorem dIx_ws (ws : List Int) (j : Nat) (h : j < ws.length) : dIx (wsD ws) (.int (j : Int)) = .ok (.int (gI ws j)) := dIx_mapD PyData.int ws j 0 h
theorem dIx_fl (row : List Rat) (j : Nat) (h : j < row.length) : dIx (frL row) (.int (j : Int)) = .ok (frD (gQ row j)) := dIx_mapD frD row j 0 h
theorem natAbs_mul_lt {a b : Int} {m k : Nat} (h1 : a.natAbs < 2 ^ m) (h2 : b.natAbs < 2 ^ k) : (a * b).natAbs < 2 ^ (m + k) := by
  rw [Int.natAbs_mul]
  exact mul_lt2 h1 h2
theorem foldl_fr (f : List Int → Rat) : ∀ (xs : List (List Int)) (acc : List Rat), xs.foldl (fun acc x => acc ++ [f x]) acc = acc ++ xs.map f := fun xs acc => foldl_app f xs acc
/-! rows that are none -/
theorem isrow_len (ds : List PyData) (k : Nat) (h : ds.length ≠ k) : g_is_row [.list ds, .int k] = .ok (.bool false) := by
  have h' : ¬ (ds.length : Int) = k := by omega
  rw [g_is_row_eq]
  unfold fb_is_row
  simp [runB, entry, sSeq, sAsg, sAsgT, sRet, sRetN, sIf, sNil, sOwn, sFor, sFrz, sExpr, sApp, sExt, sPar, sRaise, evM, evML, eBin, eVar, eC, eUn, eCall, eLst, eTup, eAnd, eOr, eNot, eIf, eSl, eOpt, eChain, aAll, bVal, bNot, bAnd, bOr, bC, bYes, iSeq, iCall, gN, gT, gL, setAll, eLc_N, eLc_T, frz, h']
noncomputable def shr1 (d : PyData) : R PyData := (toB (g_is_fraction [d])).bind fun b => if b = true then (dIx d (.int 0)).bind fun x => dGe x (.int 0) else .ok (.bool false)
theorem shr1_eq (a b : Option PyData) (d : PyData) : (eAnd (eCall g_is_fraction [(eVar 2)]) (eBin dGe (eBin dIx (eVar 2) (eC (.int 0))) (eC (.int 0)))) [a, b, some d] = shr1 d := by
  unfold shr1
  simp [eAnd, bVal, eCall, aAll, eVar]
  congr 1
  funext b
  cases b <;> simp [eBin, eVar, eC]
/-- something in it that is no share -/
theorem isrow_bad (ds : List PyData) (hl : ds.length ≤ 900000) (p : PyData → Bool) (hp : ds.all p = false) (hf : ∀ d ∈ ds, shr1 d = .ok (.bool (p d))) : g_is_row [.list ds, .int ds.length] = .ok (.bool false) := by
  have ga := gAll_map p ds
  rw [hp] at ga
  have mp : ∀ a b : Option PyData, mapL (fun d => (eAnd (eCall g_is_fraction [(eVar 2)]) (eBin dGe (eBin dIx (eVar 2) (eC (.int 0))) (eC (.int 0)))) [a, b, some d]) ds = .ok (.list (ds.map fun d => PyData.bool (p d))) := fun a b => by
    have := mapL_ok (f := fun d => (eAnd (eCall g_is_fraction [(eVar 2)]) (eBin dGe (eBin dIx (eVar 2) (eC (.int 0))) (eC (.int 0)))) [a, b, some d]) (enc := id) (g := fun d => PyData.bool (p d)) (xs := ds) (fun d hd => by rw [← hf d hd]; exact shr1_eq a b d) hl
    rwa [List.map_id] at this
  have lc : ∀ a b : Option PyData, a = some (.list ds) → eLc (cN 2) (iSeq (eVar 0)) bYes (eAnd (eCall g_is_fraction [(eVar 2)]) (eBin dGe (eBin dIx (eVar 2) (eC (.int 0))) (eC (.int 0)))) [a, b, none] = .ok (.list (ds.map fun d => PyData.bool (p d))) := fun a b ha => by
    subst ha
    rw [eLc_N]
    exact mp _ b
  rw [g_is_row_eq]
  unfold fb_is_row
  simp [runB, entry, sSeq, sIf, bOr, bNot, bVal, bC, eBin, eCall, aAll, eVar, sRet, eC, lc, ga]
theorem isfr_no (d : PyData) (h : is_tuple d = false) : g_is_fraction [d] = .ok (.bool false) := by
  rw [g_is_fraction_eq]
  unfold fb_is_fraction
  simp [runB, entry, sSeq, sAsg, sAsgT, sRet, sRetN, sIf, sNil, sOwn, sFor, sFrz, sExpr, sApp, sExt, sPar, sRaise, evM, evML, eBin, eVar, eC, eUn, eCall, eLst, eTup, eAnd, eOr, eNot, eIf, eSl, eOpt, eChain, aAll, bVal, bNot, bAnd, bOr, bC, bYes, iSeq, iCall, gN, gT, gL, setAll, eLc_N, eLc_T, frz, isi_tuple, h]
theorem share_fr {n : Nat} (hn : n ≤ 8000) {r : Rat} (h : Bq n r) : shr1 (frD r) = .ok (.bool (decide (0 ≤ r))) := by
  have e := isfr_ok hn h
  have q : decide (0 ≤ r) = decide (0 ≤ r.num) := decide_eq_decide.mpr Rat.num_nonneg.symm
  rw [q]
  unfold shr1
  simp [e]
theorem share_no (d : PyData) (h : g_is_fraction [d] = .ok (.bool false)) : shr1 d = .ok (.bool false) := by
  unfold shr1
  simp [h]
/-- is it a share? -/
noncomputable def okF (d : PyData) : Bool := match shr1 d with
  | .ok (.bool b) => b
  | _ => false
theorem okF_of {d : PyData} {b : Bool} (h : shr1 d = .ok (.bool b)) : shr1 d = .ok (.bool (okF d)) ∧ okF d = b := by
  have : okF d = b := by
    unfold okF
    rw [h]
  rw [this]
  exact ⟨h, rfl⟩
theorem isrow_one {ds : List PyData} (hl : ds.length ≤ 900000) (hf : ∀ d ∈ ds, ∃ b, shr1 d = .ok (.bool b)) (d : PyData) (hd : d ∈ ds) (h0 : shr1 d = .ok (.bool false)) : g_is_row [.list ds, .int ds.length] = .ok (.bool false) := by
  refine isrow_bad ds hl okF ?_ (fun d hd => ?_)
  · rw [Bool.eq_false_iff]
    intro z
    have := List.all_eq_true.mp z d hd
    rw [(okF_of h0).2] at this
    cases this
  · obtain ⟨b, hb⟩ := hf d hd
    exact (okF_of hb).1
/-! tables that are none -/
theorem needtab_ex (ss : List PyData) (rs : List PyData) (p : PyData → Bool) (hs : SeqAt.shaped (.list ss) = true) (hr : SeqAt.shaped (.list rs) = true) (hl : rs.length ≤ 900000) (h : ss = [] ∨ rs = [] ∨ ((∀ r ∈ rs, g_is_row [r, .int ss.length] = .ok (.bool (p r))) ∧ rs.all p = false)) : g_need_table [.tuple [.list ss, .list rs]] = .ex 3 := by
  have d1 := dEq_nil ss hs
  have d2 := dEq_nil rs hr
  rw [g_need_table_eq]
  unfold fb_need_table
  cases ss with
  | nil => simp [runB, entry, sSeq, sAsg, sAsgT, sRet, sRetN, sIf, sNil, sOwn, sFor, sFrz, sExpr, sApp, sExt, sPar, sRaise, evM, evML, eBin, eVar, eC, eUn, eCall, eLst, eTup, eAnd, eOr, eNot, eIf, eSl, eOpt, eChain, aAll, bVal, bNot, bAnd, bOr, bC, bYes, iSeq, iCall, gN, gT, gL, setAll, eLc_N, eLc_T, frz, d1]
  | cons s ss =>
    cases rs with
    | nil => simp [runB, entry, sSeq, sAsg, sAsgT, sRet, sRetN, sIf, sNil, sOwn, sFor, sFrz, sExpr, sApp, sExt, sPar, sRaise, evM, evML, eBin, eVar, eC, eUn, eCall, eLst, eTup, eAnd, eOr, eNot, eIf, eSl, eOpt, eChain, aAll, bVal, bNot, bAnd, bOr, bC, bYes, iSeq, iCall, gN, gT, gL, setAll, eLc_N, eLc_T, frz, d1, d2]
    | cons r rs =>
      rcases h with h | h | ⟨h, ha⟩
      · cases h
      · cases h
      · have mp : mapL (fun d => g_is_row [d, .int ((s :: ss).length : Nat)]) (r :: rs) = .ok (.list ((r :: rs).map fun d => .bool (p d))) := by
          have := mapL_ok (f := fun d => g_is_row [d, .int ((s :: ss).length : Nat)]) (enc := id) (g := fun d => PyData.bool (p d)) (xs := r :: rs) h hl
          rwa [List.map_id] at this
        have ga := gAll_map p (r :: rs)
        rw [ha] at ga
        generalize hS : s :: ss = S at *
        generalize hR : r :: rs = Rr at *
        have dS : S.isEmpty = false := by rw [← hS]; rfl
        have dR : Rr.isEmpty = false := by rw [← hR]; rfl
        rw [dS] at d1
        rw [dR] at d2
        simp [runB, entry, sSeq, sAsg, sAsgT, sRet, sRetN, sIf, sNil, sOwn, sFor, sFrz, sExpr, sApp, sExt, sPar, sRaise, evM, evML, eBin, eVar, eC, eUn, eCall, eLst, eTup, eAnd, eOr, eNot, eIf, eSl, eOpt, eChain, aAll, bVal, bNot, bAnd, bOr, bC, bYes, iSeq, iCall, gN, gT, gL, setAll, eLc_N, eLc_T, frz, d1, d2, mp, ga]
/-- what is a row of as many shares? -/
noncomputable def okR (w : Nat) (d : PyData) : Bool := match g_is_row [d, .int w] with
  | .ok (.bool b) => b
  | _ => false
theorem okR_of {w : Nat} {d : PyData} {b : Bool} (h : g_is_row [d, .int w] = .ok (.bool b)) : g_is_row [d, .int w] = .ok (.bool (okR w d)) ∧ okR w d = b := by
  have : okR w d = b := by
    unfold okR
    rw [h]
  rw [this]
  exact ⟨h, rfl⟩
theorem needtab_row (ss rs : List PyData) (x : PyData) (hs : SeqAt.shaped (.list ss) = true) (hr : SeqAt.shaped (.list rs) = true) (hl : rs.length ≤ 900000) (hx : x ∈ rs) (h : ∀ r ∈ rs, ∃ b, g_is_row [r, .int ss.length] = .ok (.bool b)) (h0 : g_is_row [x, .int ss.length] = .ok (.bool false)) : g_need_table [.tuple [.list ss, .list rs]] = .ex 3 := by
  refine needtab_ex ss rs (okR ss.length) hs hr hl (.inr (.inr ⟨fun r hr => ?_, ?_⟩))
  · obtain ⟨b, hb⟩ := h r hr
    exact (okR_of hb).1
  · rw [Bool.eq_false_iff]
    intro z
    have := List.all_eq_true.mp z x hx
    rw [(okR_of h0).2] at this
    cases this
theorem shp_sight {ss : List PyData} (h : SightsOk ss) : ShpA 60 ss := by
  obtain ⟨n, hn, hs⟩ := h.sh
  exact shpA_of fun d hd => (hs d hd).mono hn
/-- rows that are shares, one by one -/
theorem row_tot {n L : Nat} (row : List Rat) (hb : ∀ r ∈ row, Bq n r) (hp : ∀ r ∈ row, 0 ≤ r) (hl : row.length ≤ L) (hz : (L + 1) * (n + 1) + 1 ≤ 8000) : g_is_row [frL row, .int row.length] = .ok (.bool (decide (qsum row = 1))) := by
  have hn : n ≤ 8000 := by
    have : (L + 1) * (n + 1) = L * (n + 1) + (n + 1) := Nat.succ_mul _ _
    omega
  have hL : L ≤ 900000 := by
    have : L * 1 ≤ (L + 1) * (n + 1) := Nat.mul_le_mul (by omega) (by omega)
    omega
  have e1 := total_L row hb hl hz
  have mp : ∀ a b : Option PyData, mapL (fun d => (eAnd (eCall g_is_fraction [(eVar 2)]) (eBin dGe (eBin dIx (eVar 2) (eC (.int 0))) (eC (.int 0)))) [a, b, some d]) (row.map frD) = .ok (.list (row.map fun _ => .bool true)) := fun a b => mapL_ok (enc := frD) (g := fun _ => PyData.bool true) (fun r hr => by
    rw [shr1_eq, share_fr hn (hb r hr), decide_eq_true (hp r hr)]) (by omega)
  have lc : ∀ b : Option PyData, eLc (cN 2) (iSeq (eVar 0)) bYes (eAnd (eCall g_is_fraction [(eVar 2)]) (eBin dGe (eBin dIx (eVar 2) (eC (.int 0))) (eC (.int 0)))) [some (frL row), b, none] = .ok (.list (row.map fun _ => .bool true)) := fun b => by
    rw [eLc_N]
    exact mp _ b
  have gl : gLen [frL row] = .ok (.int row.length) := gLen_map _ row
  have ga := gAll_true row
  rw [g_is_row_eq]
  unfold fb_is_row
  simp [runB, entry, sSeq, sIf, sNil, bOr, bNot, bVal, bC, eBin, eCall, aAll, eVar, sRet, eC, lc, ga, gl, e1, one_fr, dEq_fr]
/-- a row with something in it -/
theorem row_with (r1 r2 : List Rat) (x : PyData) (w : Nat) (hw : r1.length + 1 + r2.length = w) (hw9 : w ≤ 900000) {n : Nat} (hn : n ≤ 8000) (h1 : ∀ r ∈ r1, Bq n r) (h2 : ∀ r ∈ r2, Bq n r) (h : shr1 x = .ok (.bool false)) : g_is_row [.list (r1.map frD ++ [x] ++ r2.map frD), .int w] = .ok (.bool false) := by
  have hl : (r1.map frD ++ [x] ++ r2.map frD).length = w := by simp; omega
  rw [← hl]
  refine isrow_one (by omega) (fun d hd => ?_) x (by simp) h
  rw [List.mem_append, List.mem_append] at hd
  rcases hd with (hd | hd) | hd
  · obtain ⟨r, hr, rfl⟩ := List.mem_map.mp hd
    exact ⟨_, share_fr hn (h1 r hr)⟩
  · rw [List.mem_singleton] at hd
    subst hd
    exact ⟨_, h⟩
  · obtain ⟨r, hr, rfl⟩ := List.mem_map.mp hd
    exact ⟨_, share_fr hn (h2 r hr)⟩
/-! things that are no fractions -/
theorem nf_tup3 (a b c : PyData) : g_is_fraction [.tuple [a, b, c]] = .ok (.bool false) := by
  rw [g_is_fraction_eq]
  unfold fb_is_fraction
  simp [runB, entry, sSeq, sAsg, sAsgT, sRet, sRetN, sIf, sNil, sOwn, sFor, sFrz, sExpr, sApp, sExt, sPar, sRaise, evM, evML, eBin, eVar, eC, eUn, eCall, eLst, eTup, eAnd, eOr, eNot, eIf, eSl, eOpt, eChain, aAll, bVal, bNot, bAnd, bOr, bC, bYes, iSeq, iCall, gN, gT, gL, setAll, eLc_N, eLc_T, frz, isi_tuple, is_tuple]
theorem nf_gcd (p q : Int) (hq : 0 < q) (hz : q.natAbs < 2 ^ 64) (hg : Int.gcd (if p < 0 then -p else p) q ≠ 1) : g_is_fraction [.tuple [.int p, .int q]] = .ok (.bool false) := by
  have e := common_ok (K := 64) (by omega) (if p < 0 then -p else p) q (by split <;> omega) (by omega) hz
  have m : ∀ f : PyData → R PyData, (∀ i : Int, f (.int i) = .ok (.bool true)) → mapL f [.int p, .int q] = .ok (.list [.bool true, .bool true]) := fun f hf => mapL_cons (hf p) (mapL_cons (hf q) (mapL_nil f) (by simp)) (by simp)
  have hg' : ¬ ((Int.gcd (if p < 0 then -p else p) q : Nat) : Int) = 1 := by omega
  rw [g_is_fraction_eq]
  unfold fb_is_fraction
  simp [runB, entry, sSeq, sAsg, sAsgT, sRet, sRetN, sIf, sNil, sOwn, sFor, sFrz, sExpr, sApp, sExt, sPar, sRaise, evM, evML, eBin, eVar, eC, eUn, eCall, eLst, eTup, eAnd, eOr, eNot, eIf, eSl, eOpt, eChain, aAll, bVal, bNot, bAnd, bOr, bC, bYes, iSeq, iCall, gN, gT, gL, setAll, eLc_N, eLc_T, frz, isi_tuple, is_tuple]
  rw [m _ (fun i => by simp [runB, entry, sSeq, sAsg, sAsgT, sRet, sRetN, sIf, sNil, sOwn, sFor, sFrz, sExpr, sApp, sExt, sPar, sRaise, evM, evML, eBin, eVar, eC, eUn, eCall, eLst, eTup, eAnd, eOr, eNot, eIf, eSl, eOpt, eChain, aAll, bVal, bNot, bAnd, bOr, bC, bYes, iSeq, iCall, gN, gT, gL, setAll, eLc_N, eLc_T, frz, isi_int, is_int, isi_bool, is_bool])]
  simp [gAll, boolsOf, runB, entry, sSeq, sAsg, sAsgT, sRet, sRetN, sIf, sNil, sOwn, sFor, sFrz, sExpr, sApp, sExt, sPar, sRaise, evM, evML, eBin, eVar, eC, eUn, eCall, eLst, eTup, eAnd, eOr, eNot, eIf, eSl, eOpt, eChain, aAll, bVal, bNot, bAnd, bOr, bC, bYes, iSeq, iCall, gN, gT, gL, setAll, eLc_N, eLc_T, frz, hq, e, hg']
theorem nf_zero (p : Int) : g_is_fraction [.tuple [.int p, .int 0]] = .ok (.bool false) := by
  have m : ∀ f : PyData → R PyData, (∀ i : Int, f (.int i) = .ok (.bool true)) → mapL f [.int p, .int 0] = .ok (.list [.bool true, .bool true]) := fun f hf => mapL_cons (hf p) (mapL_cons (hf 0) (mapL_nil f) (by simp)) (by simp)
  rw [g_is_fraction_eq]
  unfold fb_is_fraction
  simp [runB, entry, sSeq, sAsg, sAsgT, sRet, sRetN, sIf, sNil, sOwn, sFor, sFrz, sExpr, sApp, sExt, sPar, sRaise, evM, evML, eBin, eVar, eC, eUn, eCall, eLst, eTup, eAnd, eOr, eNot, eIf, eSl, eOpt, eChain, aAll, bVal, bNot, bAnd, bOr, bC, bYes, iSeq, iCall, gN, gT, gL, setAll, eLc_N, eLc_T, frz, isi_tuple, is_tuple]
  rw [m _ (fun i => by simp [runB, entry, sSeq, sAsg, sAsgT, sRet, sRetN, sIf, sNil, sOwn, sFor, sFrz, sExpr, sApp, sExt, sPar, sRaise, evM, evML, eBin, eVar, eC, eUn, eCall, eLst, eTup, eAnd, eOr, eNot, eIf, eSl, eOpt, eChain, aAll, bVal, bNot, bAnd, bOr, bC, bYes, iSeq, iCall, gN, gT, gL, setAll, eLc_N, eLc_T, frz, isi_int, is_int, isi_bool, is_bool])]
  simp [gAll, boolsOf, runB, entry, sSeq, sAsg, sAsgT, sRet, sRetN, sIf, sNil, sOwn, sFor, sFrz, sExpr, sApp, sExt, sPar, sRaise, evM, evML, eBin, eVar, eC, eUn, eCall, eLst, eTup, eAnd, eOr, eNot, eIf, eSl, eOpt, eChain, aAll, bVal, bNot, bAnd, bOr, bC, bYes, iSeq, iCall, gN, gT, gL, setAll, eLc_N, eLc_T, frz]
theorem nf_bool (b : Bool) (q : Int) : g_is_fraction [.tuple [.bool b, .int q]] = .ok (.bool false) := by
  rw [g_is_fraction_eq]
  unfold fb_is_fraction
  simp [runB, entry, sSeq, sAsg, sAsgT, sRet, sRetN, sIf, sNil, sOwn, sFor, sFrz, sExpr, sApp, sExt, sPar, sRaise, evM, evML, eBin, eVar, eC, eUn, eCall, eLst, eTup, eAnd, eOr, eNot, eIf, eSl, eOpt, eChain, aAll, bVal, bNot, bAnd, bOr, bC, bYes, iSeq, iCall, gN, gT, gL, setAll, eLc_N, eLc_T, frz, isi_tuple, is_tuple]
  rw [mapL_cons (y := .bool false) (ys := [.bool true]) (by simp [runB, entry, sSeq, sAsg, sAsgT, sRet, sRetN, sIf, sNil, sOwn, sFor, sFrz, sExpr, sApp, sExt, sPar, sRaise, evM, evML, eBin, eVar, eC, eUn, eCall, eLst, eTup, eAnd, eOr, eNot, eIf, eSl, eOpt, eChain, aAll, bVal, bNot, bAnd, bOr, bC, bYes, iSeq, iCall, gN, gT, gL, setAll, eLc_N, eLc_T, frz, isi_int, is_int, isi_bool, is_bool]) (mapL_cons (y := .bool true) (ys := []) (by simp [runB, entry, sSeq, sAsg, sAsgT, sRet, sRetN, sIf, sNil, sOwn, sFor, sFrz, sExpr, sApp, sExt, sPar, sRaise, evM, evML, eBin, eVar, eC, eUn, eCall, eLst, eTup, eAnd, eOr, eNot, eIf, eSl, eOpt, eChain, aAll, bVal, bNot, bAnd, bOr, bC, bYes, iSeq, iCall, gN, gT, gL, setAll, eLc_N, eLc_T, frz, isi_int, is_int, isi_bool, is_bool]) (mapL_nil _) (by simp)) (by simp)]
  simp [gAll, boolsOf, runB, entry, sSeq, sAsg, sAsgT, sRet, sRetN, sIf, sNil, sOwn, sFor, sFrz, sExpr, sApp, sExt, sPar, sRaise, evM, evML, eBin, eVar, eC, eUn, eCall, eLst, eTup, eAnd, eOr, eNot, eIf, eSl, eOpt, eChain, aAll, bVal, bNot, bAnd, bOr, bC, bYes, iSeq, iCall, gN, gT, gL, setAll, eLc_N, eLc_T, frz]
/-! weights and wagers that are none -/
theorem needw_bad (ws : List Int) (k : Nat) (hl : ws.length ≤ 900000) (h : ws.length ≠ k ∨ (∃ w ∈ ws, w < 0) ∨ ws.sum = 0) : g_need_weights [wsD ws, .int k] = .ex 4 := by
  have e2 := gSum_ws ws
  have e3 := gLen_ws ws
  by_cases hk : ws.length = k
  · subst hk
    have mp : ∀ f : PyData → R PyData, (∀ i : Int, f (.int i) = .ok (.bool (decide (0 ≤ i)))) → mapL f (ws.map .int) = .ok (.list (ws.map fun i => .bool (decide (0 ≤ i)))) := fun f hf => mapL_ok (fun i _ => hf i) hl
    have ga := gAll_map (fun i : Int => decide (0 ≤ i)) ws
    rw [g_need_weights_eq]
    unfold fb_need_weights
    simp [runB, entry, sSeq, sAsg, sAsgT, sRet, sRetN, sIf, sNil, sOwn, sFor, sFrz, sExpr, sApp, sExt, sPar, sRaise, evM, evML, eBin, eVar, eC, eUn, eCall, eLst, eTup, eAnd, eOr, eNot, eIf, eSl, eOpt, eChain, aAll, bVal, bNot, bAnd, bOr, bC, bYes, iSeq, iCall, gN, gT, gL, setAll, eLc_N, eLc_T, frz, e3]
    rw [mp _ (fun i => by simp)]
    rcases h with h | ⟨w, hw, h0⟩ | h
    · exact absurd rfl h
    · have : (ws.all fun i : Int => decide (0 ≤ i)) = false := by
        rw [Bool.eq_false_iff]
        intro z
        have := List.all_eq_true.mp z w hw
        have := of_decide_eq_true this
        omega
      rw [this] at ga
      simp [ga, runB, entry, sSeq, sAsg, sAsgT, sRet, sRetN, sIf, sNil, sOwn, sFor, sFrz, sExpr, sApp, sExt, sPar, sRaise, evM, evML, eBin, eVar, eC, eUn, eCall, eLst, eTup, eAnd, eOr, eNot, eIf, eSl, eOpt, eChain, aAll, bVal, bNot, bAnd, bOr, bC, bYes, iSeq, iCall, gN, gT, gL, setAll, eLc_N, eLc_T, frz]
    · rw [h] at e2
      generalize (ws.all fun i : Int => decide (0 ≤ i)) = q at ga
      cases q <;> simp [ga, e2, runB, entry, sSeq, sAsg, sAsgT, sRet, sRetN, sIf, sNil, sOwn, sFor, sFrz, sExpr, sApp, sExt, sPar, sRaise, evM, evML, eBin, eVar, eC, eUn, eCall, eLst, eTup, eAnd, eOr, eNot, eIf, eSl, eOpt, eChain, aAll, bVal, bNot, bAnd, bOr, bC, bYes, iSeq, iCall, gN, gT, gL, setAll, eLc_N, eLc_T, frz]
  · have hk' : ¬ (ws.length : Int) = k := by omega
    rw [g_need_weights_eq]
    unfold fb_need_weights
    simp [runB, entry, sSeq, sAsg, sAsgT, sRet, sRetN, sIf, sNil, sOwn, sFor, sFrz, sExpr, sApp, sExt, sPar, sRaise, evM, evML, eBin, eVar, eC, eUn, eCall, eLst, eTup, eAnd, eOr, eNot, eIf, eSl, eOpt, eChain, aAll, bVal, bNot, bAnd, bOr, bC, bYes, iSeq, iCall, gN, gT, gL, setAll, eLc_N, eLc_T, frz, e3, hk']
theorem qsum_zeros {α : Type} (f : α → Rat) : ∀ xs : List α, (∀ x ∈ xs, f x = 0) → qsum (xs.map f) = 0
  | [], _ => rfl
  | x :: xs, h => by
    rw [List.map_cons, qsum, h x List.mem_cons_self, qsum_zeros f xs fun y hy => h y (List.mem_cons_of_mem _ hy), Rat.add_zero]
theorem qsum_one {f : Nat → Rat} {i : Nat} (n s : Nat) (h1 : s ≤ i) (h2 : i < s + n) (h : ∀ j, j ≠ i → f j = 0) : qsum ((List.range' s n).map f) = f i := by
  induction n generalizing s with
  | zero => omega
  | succ n ih =>
    rw [List.range'_succ, List.map_cons, qsum]
    by_cases e : s = i
    · subst e
      rw [qsum_zeros f _ fun j hj => h j (by have := List.mem_range'_1.mp hj; omega), Rat.add_zero]
    · rw [h s e, Rat.zero_add, ih (s + 1) (by omega) (by omega)]
theorem cut_to (xs : List PyData) (n : Nat) (h : n ≤ xs.length) : cutD xs none (some (n : Int)) = xs.take n := by
  unfold cutD
  rw [HT.sIx_none, HT.sIx_nat, Nat.min_eq_left h]
  simp
theorem cut_from (xs : List PyData) (n : Nat) (h : n ≤ xs.length) : cutD xs (some (n : Int)) none = xs.drop n := by
  unfold cutD
  rw [HT.sIx_none, HT.sIx_nat, Nat.min_eq_left h]
  exact List.take_of_length_le (by rw [List.length_drop]; omega)
theorem cut_last (xs : List PyData) (h : xs ≠ []) : cutD xs none (some (-1)) = xs.dropLast := by
  have hl := len_pos h
  unfold cutD
  rw [HT.sIx_none]
  have : HT.sIx xs.length xs.length (some (-1)) = xs.length - 1 := by
    show (if (-1 : Int) < 0 then ((-1 : Int) + (xs.length : Int)).toNat else min (-1 : Int).toNat xs.length) = _
    rw [if_pos (by decide)]
    omega
  rw [this, List.dropLast_eq_take]
  simp
theorem cut_end (xs : List PyData) (h : xs ≠ []) : cutD xs (some (-1)) none = [xs.getLast h] := by
  have hl := len_pos h
  unfold cutD
  rw [HT.sIx_none]
  have : HT.sIx xs.length 0 (some (-1)) = xs.length - 1 := by
    show (if (-1 : Int) < 0 then ((-1 : Int) + (xs.length : Int)).toNat else min (-1 : Int).toNat xs.length) = _
    rw [if_pos (by decide)]
    omega
  rw [this]
  rw [show xs.length - (xs.length - 1) = 1 by omega, List.drop_eq_getElem_cons (by omega), List.getLast_eq_getElem]
  rfl
/-! plain tables -/
def unitR (w p : Nat) : List Rat := (List.range w).map fun k => if p = k then 1 else 0
theorem unitR_len (w p : Nat) : (unitR w p).length = w := by simp [unitR]
theorem b01 (b : Prop) [Decidable b] : Bq 1 (if b then (1 : Rat) else 0) := by
  split
  · exact ⟨by decide, by decide⟩
  · exact ⟨by decide, by decide⟩
theorem unitR_ok (w p : Nat) (h : p < w) : RowOk 1 (unitR w p) := by
  refine ⟨fun r hr => ?_, fun r hr => ?_, ?_⟩
  · obtain ⟨k, _, rfl⟩ := List.mem_map.mp hr
    exact b01 _
  · obtain ⟨k, _, rfl⟩ := List.mem_map.mp hr
    split
    · decide
    · exact Rat.le_refl
  · unfold unitR
    rw [List.range_eq_range', qsum_one (i := p) w 0 (by omega) (by omega) fun j hj => if_neg fun z => hj z.symm, if_pos rfl]
structure PlOk (w : Nat) (ss : List PyData) (ps : List Nat) : Prop where
  s : SightsOk ss
  l : ss.length = w
  w1 : 1 ≤ w
  w9 : w ≤ 10
  p : ∀ p ∈ ps, p < w
  n : ps ≠ []
  n9 : ps.length ≤ 10
def plR (w : Nat) (ps : List Nat) : List (List Rat) := ps.map (unitR w)
theorem PlOk.tab {w : Nat} {ss : List PyData} {ps : List Nat} (h : PlOk w ss ps) : TabOk 1 10 ss (plR w ps) := by
  refine ⟨h.s, fun z => ?_, by simpa [plR] using h.n, fun row hr => ?_, by rw [h.l]; exact h.w9, by simp [plR]; exact h.n9, by decide⟩
  · have := h.l
    rw [z] at this
    have := h.w1
    simp at *
    omega
  · obtain ⟨p, hp, rfl⟩ := List.mem_map.mp hr
    exact ⟨unitR_ok w p (h.p p hp), by rw [unitR_len, h.l]⟩
theorem inT_fr (x : Rat) : dInT (frD x) (.tuple [c_NOUGHT, c_ONE]) = .ok (.bool (decide (x = 0) || decide (x = 1))) := by
  have s : SeqAt.shaped (.tuple [frD 0, frD 1]) = true := shaped_of (n := 2) (shp_tuple (shpA_cons (shp_fr 0 0) (shpA_cons (shp_fr 0 1) (shpA_nil _)))) (by decide)
  rw [nought_fr, one_fr]
  unfold dInT
  dsimp only
  rw [if_pos ⟨shaped_fr x, s⟩]
  simp only [anyEq, List.any_cons, List.any_nil, Bool.or_false, eqv_fr]
  congr 3
  · exact decide_eq_decide.mpr ⟨fun h => h.symm, fun h => h.symm⟩
  · exact decide_eq_decide.mpr ⟨fun h => h.symm, fun h => h.symm⟩
def isPlR (row : List Rat) : Bool := row.all fun x => decide (x = 0) || decide (x = 1)
def isPl (rows : List (List Rat)) : Bool := rows.all isPlR
theorem needplain_gen {n L : Nat} {ss : List PyData} {rows : List (List Rat)} (h : TabOk n L ss rows) : g_need_plain [tabD ss rows] = if isPl rows = true then .ok .none else .ex 5 := by
  have hL := h.L9
  have hrl := h.rl
  have ga := gAll_map isPlR rows
  have hq : rows.all isPlR = isPl rows := rfl
  rw [hq] at ga
  rw [g_need_plain_eq]
  unfold fb_need_plain
  simp [runB, entry, sSeq, sExpr, eCall, aAll, eVar, h.need, sIf, bNot, bVal, eLc_N, iSeq, eBin, eC, eTup, tab_1]
  rw [mapL_ok (enc := frL) (g := fun row : List Rat => .bool (isPlR row)) (fun row hr => by
    simp
    rw [mapL_ok (enc := frD) (g := fun x : Rat => .bool (decide (x = 0) || decide (x = 1))) (fun x _ => inT_fr x) (by rw [(h.row row hr).2]; have := h.sl; omega)]
    have := gAll_map (fun x : Rat => decide (x = 0) || decide (x = 1)) row
    have hq : (row.all fun x : Rat => decide (x = 0) || decide (x = 1)) = isPlR row := rfl
    rw [hq] at this
    simp [this]) (by omega)]
  generalize isPl rows = q at *
  cases q <;> simp [ga, sRaise, sNil]
theorem PlOk.need {w : Nat} {ss : List PyData} {ps : List Nat} (h : PlOk w ss ps) : g_need_plain [tabD ss (plR w ps)] = .ok .none := by
  rw [needplain_gen h.tab, if_pos]
  unfold isPl
  rw [List.all_eq_true]
  intro row hr
  obtain ⟨p, hp, rfl⟩ := List.mem_map.mp hr
  unfold isPlR
  rw [List.all_eq_true]
  intro x hx
  obtain ⟨k, _, rfl⟩ := List.mem_map.mp hx
  split <;> simp
theorem idx_unit (w p : Nat) (h : p < w) : idxOf (frD 1) ((unitR w p).map frD) = some p := by
  unfold unitR
  rw [List.map_map, List.range_eq_range']
  have key : ∀ (n s : Nat), s ≤ p → p < s + n → idxOf (frD 1) ((List.range' s n).map (frD ∘ fun k => if p = k then (1 : Rat) else 0)) = some (p - s) := by
    intro n
    induction n with
    | zero => intro s h1 h2; omega
    | succ n ih =>
      intro s h1 h2
      rw [List.range'_succ, List.map_cons, idxOf]
      simp only [Function.comp]
      by_cases e : p = s
      · subst e
        simp [eqv_fr]
      · simp [eqv_fr, e, ih (s + 1) (by omega) (by omega)]
        omega
  have := key w 0 (by omega) (by omega)
  simpa using this
def psI (ps : List Nat) : List Int := ps.map fun p : Nat => (p : Int)
theorem PlOk.places {w : Nat} {ss : List PyData} {ps : List Nat} (h : PlOk w ss ps) : g_places [tabD ss (plR w ps)] = .ok (wsD (psI ps)) := by
  have n9 := h.n9
  have it : itemsOf (rowsD (plR w ps)) = .ok (ps.map fun p => frL (unitR w p)) := by
    rw [items_rows]
    unfold plR
    rw [List.map_map]
    rfl
  rw [g_places_eq]
  unfold fb_places
  simp [runB, entry, sRet, eLc_N, iSeq, eBin, eVar, eC, tab_1, it]
  rw [mapL_ok (enc := fun p => frL (unitR w p)) (g := fun p : Nat => .int (p : Int)) (fun p hp => by
    have ix := idx_unit w p (h.p p hp)
    have s1 : SeqAt.shaped (.list ((unitR w p).map frD)) = true := shaped_of (shp_frL _) (by decide)
    show eIndex (eVar 1) (eC c_ONE) _ = _
    unfold eIndex
    simp [eVar, eC, one_fr, frL, dIndex, s1, ix]) (by omega)]
  unfold wsD psI
  rw [List.map_map]
  rfl
/-! classes -/
def clsAt (ps : List Nat) (pl : Nat) : List Int := (ps.zipIdx.filter fun q => decide (q.1 = pl)).map fun q => ((q.2 : Nat) : Int)
def kinds (ps : List Nat) (w : Nat) : List Nat := (List.range w).filter fun k => decide (k ∈ ps)
theorem srt_kinds {w : Nat} {ps : List Nat} (h : ∀ p ∈ ps, p < w) : srtI (psI ps) = (kinds ps w).map fun k : Nat => (k : Int) := by
  refine lt_unique (srtI_lt _) ?_ fun k => ?_
  · rw [List.pairwise_map]
    refine List.Pairwise.imp (R := fun a b : Nat => a < b) (fun h => by omega) ?_
    exact List.Pairwise.filter _ List.pairwise_lt_range
  · rw [mem_srtI, psI, List.mem_map, List.mem_map]
    constructor
    · rintro ⟨p, hp, rfl⟩
      exact ⟨p, List.mem_filter.mpr ⟨List.mem_range.mpr (h p hp), by simpa using hp⟩, rfl⟩
    · rintro ⟨p, hp, rfl⟩
      exact ⟨p, by simpa using (List.mem_filter.mp hp).2, rfl⟩
noncomputable def clsD (w : Nat) (ps : List Nat) : PyData := .list ((kinds ps w).map fun k => wsD (clsAt ps k))
theorem enum_ws (ps : List Nat) : enum1 [wsD (psI ps)] = .ok (ps.zipIdx.map fun q => .tuple [.int ((q.2 : Nat) : Int), .int ((q.1 : Nat) : Int)]) := by
  have e : wsD (psI ps) = .list (ps.map fun p : Nat => PyData.int (p : Int)) := by
    unfold wsD psI
    rw [List.map_map]
    rfl
  rw [e]
  exact enum1_map (fun p : Nat => PyData.int (p : Int)) ps
theorem PlOk.classes {w : Nat} {ss : List PyData} {ps : List Nat} (h : PlOk w ss ps) : g_classes [tabD ss (plR w ps)] = .ok (clsD w ps) := by
  have n9 := h.n9
  have ss' : gSortSet [wsD (psI ps)] = .ok (.list ((kinds ps w).map fun k : Nat => PyData.int (k : Int))) := by
    unfold gSortSet wsD
    dsimp only
    rw [intsOf_map]
    dsimp only
    rw [if_pos (by simp [psI]; omega), srt_kinds h.p, List.map_map]
    rfl
  have kl : (kinds ps w).length ≤ 900000 := by
    have : (kinds ps w).length ≤ (List.range w).length := List.length_filter_le _ _
    rw [List.length_range] at this
    have := h.w9
    omega
  rw [g_classes_eq]
  unfold fb_classes
  simp [runB, entry, sSeqF, sExpr, sAsg, evM, eCall, aAll, eVar, h.need, h.places, sRetP, eLc_N, iSeq, ss']
  rw [mapL_ok (enc := fun k : Nat => PyData.int (k : Int)) (g := fun k => wsD (clsAt ps k)) (fun k _ => by
    rw [eLc_TF]
    simp [iCall, aAll, eVar, enum_ws]
    rw [fltL_ok (enc := fun q : Nat × Nat => PyData.tuple [.int ((q.2 : Nat) : Int), .int ((q.1 : Nat) : Int)]) (p := fun q => decide (q.1 = k)) (g := fun q => .int ((q.2 : Nat) : Int)) (fun q _ => by
      simp [bVal, eBin, eVar]
      by_cases e : q.1 = k
      · simp [e]
      · have : ¬ ((q.1 : Nat) : Int) = k := by omega
        simp [e, this]) (fun q _ _ => by simp [eAt, eVar, atomic]) (by simp; omega)]
    unfold wsD clsAt
    rw [List.map_map]
    rfl) kl]
  rfl
/-! the law's own look -/
theorem clsAt_mem {ps : List Nat} {k : Nat} {j : Int} : j ∈ clsAt ps k ↔ ∃ i : Nat, ps[i]? = some k ∧ j = (i : Int) := by
  unfold clsAt
  rw [List.mem_map]
  constructor
  · rintro ⟨q, hq, rfl⟩
    obtain ⟨h1, h2⟩ := List.mem_filter.mp hq
    have := List.mem_zipIdx_iff_getElem?.mp h1
    simp at h2
    exact ⟨q.2, by rw [this, h2], rfl⟩
  · rintro ⟨i, hi, rfl⟩
    exact ⟨(k, i), List.mem_filter.mpr ⟨List.mem_zipIdx_iff_getElem?.mpr hi, by simp⟩, rfl⟩
theorem clsAt_nil {ps : List Nat} {k : Nat} : clsAt ps k = [] ↔ k ∉ ps := by
  constructor
  · intro h hk
    obtain ⟨i, hi⟩ := List.mem_iff_getElem?.mp hk
    have : (i : Int) ∈ clsAt ps k := clsAt_mem.mpr ⟨i, hi, rfl⟩
    rw [h] at this
    cases this
  · intro h
    cases hc : clsAt ps k with
    | nil => rfl
    | cons j r =>
      have : j ∈ clsAt ps k := by rw [hc]; exact List.mem_cons_self
      obtain ⟨i, hi, _⟩ := clsAt_mem.mp this
      exact absurd (List.mem_iff_getElem?.mpr ⟨i, hi⟩) h
theorem clsAt_len {ps : List Nat} {k : Nat} : (clsAt ps k).length ≤ ps.length := by
  unfold clsAt
  rw [List.length_map]
  have : (ps.zipIdx.filter fun q => decide (q.1 = k)).length ≤ ps.zipIdx.length := List.length_filter_le _ _
  simpa using this
theorem unit_at (w p k : Nat) (h : k < w) : dIx (frL (unitR w p)) (.int (k : Int)) = .ok (frD (if p = k then 1 else 0)) := by
  rw [dIx_fl _ _ (by rw [unitR_len]; exact h)]
  congr 2
  simp [gQ, unitR, List.getD, h]
theorem lcl_turn {w : Nat} {ss : List PyData} {ps : List Nat} (h : PlOk w ss ps) (k : Nat) (hk : k < w) (acc : List PyData) (ha : acc.length ≤ 900000) (x3 : Sl) :
    lp__law_classes_0 [.pu (tabD ss (plR w ps)), .ow (.list acc), .pu (.int (k : Int)), x3, .no, .no] = .nx [.pu (tabD ss (plR w ps)), .ow (.list (if decide (k ∈ ps) = true then acc ++ [wsD (clsAt ps k)] else acc)), .pu (.int (k : Int)), .pu (wsD (clsAt ps k)), .no, .no] := by
  have n9 := h.n9
  have en : enum1 [rowsD (plR w ps)] = .ok (ps.zipIdx.map fun q => .tuple [.int ((q.2 : Nat) : Int), frL (unitR w q.1)]) := by
    have : rowsD (plR w ps) = .list (ps.map fun p => frL (unitR w p)) := by
      rw [rowsD_eq]
      unfold plR
      rw [List.map_map]
      rfl
    rw [this]
    exact enum1_map (fun p => frL (unitR w p)) ps
  have hcl := clsAt_len (ps := ps) (k := k)
  have nz : dNe (wsD (clsAt ps k)) (.list []) = .ok (.bool (decide (k ∈ ps))) := by
    unfold wsD
    rw [dNe_nil _ (shaped_ints _)]
    congr 2
    by_cases hm : k ∈ ps
    · have : clsAt ps k ≠ [] := fun z => (clsAt_nil.mp z) hm
      cases hc : clsAt ps k with
      | nil => exact absurd hc this
      | cons _ _ => simp [hm]
    · rw [clsAt_nil.mpr hm]
      simp [hm]
  unfold lp__law_classes_0
  refine seq_nx (e := [.pu (tabD ss (plR w ps)), .ow (.list acc), .pu (.int (k : Int)), .ow (wsD (clsAt ps k)), .no, .no]) ?_ ?_
  · simp [sOwn, eLc_TF, iCall, aAll, eBin, eVar, eC, tab_1, en]
    rw [fltL_ok (enc := fun q : Nat × Nat => PyData.tuple [.int ((q.2 : Nat) : Int), frL (unitR w q.1)]) (p := fun q => decide (q.1 = k)) (g := fun q => .int ((q.2 : Nat) : Int)) (fun q _ => by
      have u := unit_at w q.1 k hk
      have d := dEq_fr (if q.1 = k then 1 else 0) 1
      by_cases e : q.1 = k
      · rw [if_pos e] at u d
        rw [decide_eq_true e]
        simp [runB, entry, sSeq, sAsg, sAsgT, sRet, sRetN, sIf, sNil, sOwn, sFor, sFrz, sExpr, sApp, sExt, sPar, sRaise, evM, evML, eBin, eVar, eC, eUn, eCall, eLst, eTup, eAnd, eOr, eNot, eIf, eSl, eOpt, eChain, aAll, bVal, bNot, bAnd, bOr, bC, bYes, iSeq, iCall, gN, gT, gL, setAll, eLc_N, eLc_T, frz, u, fr_one, d]
      · rw [if_neg e] at u d
        rw [decide_eq_false e]
        simp [runB, entry, sSeq, sAsg, sAsgT, sRet, sRetN, sIf, sNil, sOwn, sFor, sFrz, sExpr, sApp, sExt, sPar, sRaise, evM, evML, eBin, eVar, eC, eUn, eCall, eLst, eTup, eAnd, eOr, eNot, eIf, eSl, eOpt, eChain, aAll, bVal, bNot, bAnd, bOr, bC, bYes, iSeq, iCall, gN, gT, gL, setAll, eLc_N, eLc_T, frz, u, fr_one, d]) (fun q _ _ => by simp [eVar]) (by simp; omega)]
    simp
    unfold wsD clsAt
    rw [List.map_map]
    rfl
  · by_cases hm : k ∈ ps
    · rw [decide_eq_true hm] at nz ⊢
      simp [runB, entry, sSeq, sAsg, sAsgT, sRet, sRetN, sIf, sNil, sOwn, sFor, sFrz, sExpr, sApp, sExt, sPar, sRaise, evM, evML, eBin, eVar, eC, eUn, eCall, eLst, eTup, eAnd, eOr, eNot, eIf, eSl, eOpt, eChain, aAll, bVal, bNot, bAnd, bOr, bC, bYes, iSeq, iCall, gN, gT, gL, setAll, eLc_N, eLc_T, frz, nz, szl_big ha]
    · rw [decide_eq_false hm] at nz ⊢
      simp [runB, entry, sSeq, sAsg, sAsgT, sRet, sRetN, sIf, sNil, sOwn, sFor, sFrz, sExpr, sApp, sExt, sPar, sRaise, evM, evML, eBin, eVar, eC, eUn, eCall, eLst, eTup, eAnd, eOr, eNot, eIf, eSl, eOpt, eChain, aAll, bVal, bNot, bAnd, bOr, bC, bYes, iSeq, iCall, gN, gT, gL, setAll, eLc_N, eLc_T, frz, nz]
theorem foldl_flt {α β : Type} (p : α → Bool) (f : α → β) : ∀ (xs : List α) (acc : List β), xs.foldl (fun acc x => if p x = true then acc ++ [f x] else acc) acc = acc ++ (xs.filter p).map f
  | [], acc => by simp
  | x :: xs, acc => by
    rw [List.foldl_cons, foldl_flt p f xs]
    by_cases h : p x = true
    · rw [if_pos h, List.filter_cons_of_pos h]
      simp
    · rw [if_neg h, List.filter_cons_of_neg h]
theorem PlOk.lcl {w : Nat} {ss : List PyData} {ps : List Nat} (h : PlOk w ss ps) : g__law_classes [tabD ss (plR w ps)] = .ok (clsD w ps) := by
  have w9 := h.w9
  have r1 := rng1_map w (by omega)
  obtain ⟨e, h1, ⟨x2, x3, hx⟩, _⟩ := forF_idx (tg := gN 2) (body := lp__law_classes_0) (fun k : Nat => .int (k : Int)) (fun acc k => if decide (k ∈ ps) = true then acc ++ [wsD (clsAt ps k)] else acc) (fun i acc env => (∃ x2 x3, env = [.pu (tabD ss (plR w ps)), .ow (.list acc), x2, x3, .no, .no]) ∧ acc.length ≤ i) (List.range w) 0 [] [.pu (tabD ss (plR w ps)), .ow (.list []), .no, .no, .no, .no] ⟨⟨_, _, rfl⟩, Nat.le_refl _⟩ (fun i acc env ⟨⟨x2, x3, he⟩, hacc⟩ _ hi k hk => by
    subst he
    rw [List.length_range] at hi
    refine ⟨_, _, rfl, lcl_turn h k (List.mem_range.mp hk) acc (by omega) x3, ⟨_, _, rfl⟩, ?_⟩
    split
    · rw [List.length_append]; simp; omega
    · omega)
  rw [foldl_flt, List.nil_append] at hx
  subst hx
  rw [g__law_classes_eq]
  unfold fb__law_classes
  simp [runB, entry, sSeq, sAsg, sAsgT, sRet, sRetN, sIf, sNil, sOwn, sFor, sFrz, sExpr, sApp, sExt, sPar, sRaise, evM, evML, eBin, eVar, eC, eUn, eCall, eLst, eTup, eAnd, eOr, eNot, eIf, eSl, eOpt, eChain, aAll, bVal, bNot, bAnd, bOr, bC, bYes, iSeq, iCall, gN, gT, gL, setAll, eLc_N, eLc_T, frz, tab_0, h.l, r1, h1]
  rfl
/-! one as fine as another -/
def gN0 (qs : List Nat) (j : Nat) : Nat := qs.getD j 0
def fineB (w : Nat) (ps qs : List Nat) : Bool := (kinds ps w).all fun k => decide ((srtI ((clsAt ps k).map fun j => ((gN0 qs j.toNat : Nat) : Int))).length = 1)
theorem dIx_psI (qs : List Nat) (j : Int) (h0 : 0 ≤ j) (h1 : j < qs.length) : dIx (wsD (psI qs)) (.int j) = .ok (.int ((gN0 qs j.toNat : Nat) : Int)) := by
  have := dIx_mapD (fun p : Nat => PyData.int (p : Int)) qs j.toNat 0 (by omega)
  rw [show ((j.toNat : Nat) : Int) = j by omega] at this
  have e : wsD (psI qs) = .list (qs.map fun p : Nat => PyData.int (p : Int)) := by
    unfold wsD psI
    rw [List.map_map]
    rfl
  rw [e]
  exact this
theorem gAny_map {α : Type} (p : α → Bool) (xs : List α) : gAny [.list (xs.map fun x => PyData.bool (p x))] = .ok (.bool (xs.any p)) := by
  unfold gAny
  dsimp only
  have : xs.map (fun x => PyData.bool (p x)) = (xs.map p).map PyData.bool := by rw [List.map_map]; rfl
  rw [this, boolsOf_map]
  simp
theorem in_ws (j : Int) (c : List Int) : dIn (.int j) (wsD c) = .ok (.bool (decide (j ∈ c))) := by
  unfold wsD dIn
  dsimp only
  rw [if_pos ⟨shaped_int j, shaped_ints c⟩]
  congr 2
  unfold anyEq
  rw [List.any_map, Bool.eq_iff_iff, List.any_eq_true]
  simp only [Function.comp, PyData.eqv, decide_eq_true_eq]
  constructor
  · rintro ⟨x, hx, he⟩
    have : x = j := by simpa using he
    rw [← this]
    exact hx
  · intro h
    exact ⟨j, h, by simp⟩
theorem kinds_len {w : Nat} {ps : List Nat} : (kinds ps w).length ≤ w := by
  have : (kinds ps w).length ≤ (List.range w).length := List.length_filter_le _ _
  rwa [List.length_range] at this
theorem cls_ex (T : PyData) (c : Nat) (h : g_need_plain [T] = .ex c) : g_classes [T] = .ex c := by
  rw [g_classes_eq]
  unfold fb_classes
  simp [runB, entry, sSeqF, sExpr, eCall, aAll, eVar, h]
theorem plain_tab (T : PyData) (c : Nat) (h : g_need_table [T] = .ex c) : g_need_plain [T] = .ex c := by
  rw [g_need_plain_eq]
  unfold fb_need_plain
  simp [runB, entry, sSeq, sExpr, eCall, aAll, eVar, h]
theorem wd3 : wdL 3 = some "BadTable" := by simp [wdL]
theorem wd5 : wdL 5 = some "NotPlain" := by simp [wdL]
/-! plain tables drawn -/
noncomputable def plP (more : Int) (rows wide : Nat) : List Nat := (List.range rows).map fun j : Nat => (drw more (3 * (j : Int)) % wide).toNat
def sgp (more : Int) (k : Nat) : PyData := if more % 2 = 0 then .tuple [.int k] else .tuple [.int ((k : Int) / 2), .int k]
def plS (more : Int) (wide : Nat) : List PyData := (List.range wide).map (sgp more)
theorem sgp_shp (more : Int) (k : Nat) : Shp 1 (sgp more k) := by
  unfold sgp
  split
  · exact shp_tuple (shpA_cons (shp_int _ _) (shpA_nil _))
  · exact shp_tuple (shpA_cons (shp_int _ _) (shpA_cons (shp_int _ _) (shpA_nil _)))
theorem lt_1 (a b : Int) (h : a < b) : ltD (.tuple [.int a]) (.tuple [.int b]) = some true := by
  have n : ¬ a = b := by omega
  simp [ltD, ltL, PyData.eqv, n, h]
theorem lt_2 (a b c d : Int) (h : a < b ∨ (a = b ∧ c < d)) : ltD (.tuple [.int a, .int c]) (.tuple [.int b, .int d]) = some true := by
  rcases h with h | ⟨rfl, h⟩
  · have n : ¬ a = b := by omega
    by_cases e : c = d <;> simp [ltD, ltL, PyData.eqv, n, h, e]
  · have n : ¬ c = d := by omega
    simp [ltD, ltL, PyData.eqv, n, h]
theorem sgp_lt (more : Int) (i : Nat) : ltD (sgp more i) (sgp more (i + 1)) = some true := by
  unfold sgp
  split
  · exact lt_1 _ _ (by omega)
  · exact lt_2 _ _ _ _ (by omega)
theorem sgp_ok (more : Int) (wide : Nat) : SightsOk (plS more wide) := by
  refine ⟨⟨1, by decide, fun s hs => ?_⟩, ?_⟩
  · obtain ⟨k, _, rfl⟩ := List.mem_map.mp hs
    exact sgp_shp more k
  · unfold plS
    rw [List.range_eq_range']
    exact rising_rng _ (fun i => sgp_lt more i) wide 0
theorem plP_len (more : Int) (rows wide : Nat) : (plP more rows wide).length = rows := by simp [plP]
theorem pl_ok (more : Int) (rows wide : Nat) (hr : 1 ≤ rows) (hr9 : rows ≤ 10) (hw : 1 ≤ wide) (hw9 : wide ≤ 10) : PlOk wide (plS more wide) (plP more rows wide) := by
  refine ⟨sgp_ok more wide, by simp [plS], hw, hw9, fun p hp => ?_, fun z => ?_, by rw [plP_len]; exact hr9⟩
  · obtain ⟨j, _, rfl⟩ := List.mem_map.mp hp
    have := Int.emod_nonneg (drw more (3 * (j : Int))) (b := wide) (by omega)
    have := Int.emod_lt_of_pos (drw more (3 * (j : Int))) (b := wide) (by omega)
    omega
  · have := plP_len more rows wide
    rw [z] at this
    simp at this
    omega
theorem lplain_ok (more : Int) (rows wide : Nat) (hr9 : rows ≤ 10) (hw : 1 ≤ wide) (hw9 : wide ≤ 10) : g__law_plain [.int more, .int rows, .int wide] = .ok (tabD (plS more wide) (plR wide (plP more rows wide))) := by
  have r1 := rng1_map wide (by omega)
  have r2 := rng1_map rows (by omega)
  have dw : ∀ x : Int, dMod (.int x) (.int (wide : Int)) = .ok (.int (x % wide)) := fun x => dMod_int (by omega)
  obtain ⟨e, h1, ⟨x4, x5, hx⟩, _⟩ := forF_idx (tg := gN 4) (body := lp__law_plain_0) (fun j : Nat => .int (j : Int)) (fun acc j => acc ++ [unitR wide (drw more (3 * (j : Int)) % wide).toNat]) (fun i acc env => (∃ x4 x5, env = [.pu (.int more), .pu (.int rows), .pu (.int wide), .ow (rowsD acc), x4, x5, .no]) ∧ acc.length ≤ i) (List.range rows) 0 [] [.pu (.int more), .pu (.int rows), .pu (.int wide), .ow (.list []), .no, .no, .no] ⟨⟨_, _, rfl⟩, Nat.le_refl _⟩ (fun i acc env ⟨⟨x4, x5, he⟩, hacc⟩ _ hi j hj => by
    subst he
    rw [List.length_range] at hi
    have m0 := Int.emod_nonneg (drw more (3 * (j : Int))) (b := wide) (by omega)
    have m3 : dMul (.int 3) (.int (j : Int)) = .ok (.int (3 * (j : Int))) := dMul_int (mulOk_l (by decide) (by decide))
    refine ⟨_, [.pu (.int more), .pu (.int rows), .pu (.int wide), .ow (rowsD (acc ++ [unitR wide (drw more (3 * (j : Int)) % wide).toNat])), .pu (.int (j : Int)), .pu (.int (drw more (3 * (j : Int)) % wide)), .no], rfl, ?_, ⟨_, _, rfl⟩, by rw [List.length_append]; simp; omega⟩
    have ra : rowsD acc = .list (acc.map frL) := rfl
    have rb : rowsD (acc ++ [unitR wide (drw more (3 * (j : Int)) % wide).toNat]) = .list (acc.map frL ++ [frL (unitR wide (drw more (3 * (j : Int)) % wide).toNat)]) := by
      rw [rowsD_eq, List.map_append]
      rfl
    rw [ra, rb]
    unfold lp__law_plain_0
    refine seq_nx (e := [.pu (.int more), .pu (.int rows), .pu (.int wide), .ow (.list (acc.map frL)), .pu (.int (j : Int)), .pu (.int (drw more (3 * (j : Int)) % wide)), .no]) (by simp [runB, entry, sSeq, sAsg, sAsgT, sRet, sRetN, sIf, sNil, sOwn, sFor, sFrz, sExpr, sApp, sExt, sPar, sRaise, evM, evML, eBin, eVar, eC, eUn, eCall, eLst, eTup, eAnd, eOr, eNot, eIf, eSl, eOpt, eChain, aAll, bVal, bNot, bAnd, bOr, bC, bYes, iSeq, iCall, gN, gT, gL, setAll, eLc_N, eLc_T, frz, m3, drw_eq, dw]) ?_
    generalize hp : drw more (3 * (j : Int)) % wide = pp at *
    simp [runB, entry, sSeq, sAsg, sAsgT, sRet, sRetN, sIf, sNil, sOwn, sFor, sFrz, sExpr, sApp, sExt, sPar, sRaise, evM, evML, eBin, eVar, eC, eUn, eCall, eLst, eTup, eAnd, eOr, eNot, eIf, eSl, eOpt, eChain, aAll, bVal, bNot, bAnd, bOr, bC, bYes, iSeq, iCall, gN, gT, gL, setAll, eLc_N, eLc_T, frz, r1]
    rw [mapL_ok (g := fun k : Nat => frD (if pp.toNat = k then (1 : Rat) else 0)) (fun k _ => by
      by_cases e : pp.toNat = k
      · have : pp = (k : Int) := by omega
        simp [this, fr_one]
      · have : ¬ pp = (k : Int) := by omega
        simp [e, this, fr_zero]) (by simp; omega), frL_map (fun k : Nat => if pp.toNat = k then (1 : Rat) else 0)]
    simp [szl_big (show acc.length ≤ 900000 by omega)]
    rfl)
  rw [foldl_app, List.nil_append] at hx
  subst hx
  have q : rowsD ((List.range rows).map fun j : Nat => unitR wide (drw more (3 * (j : Int)) % wide).toNat) = rowsD (plR wide (plP more rows wide)) := by
    unfold plR plP
    rw [List.map_map]
    rfl
  rw [q] at h1
  have d2 : dMod (.int more) (.int 2) = .ok (.int (more % 2)) := dMod_int (by decide)
  have k2 : ∀ k : Nat, dDiv (.int (k : Int)) (.int 2) = .ok (.int ((k : Int) / 2)) := fun k => dDiv_int (divOk_small (by decide) (by decide))
  rw [g__law_plain_eq]
  unfold fb__law_plain
  simp [runB, entry, sSeq, sAsg, sAsgT, sRet, sRetN, sIf, sNil, sOwn, sFor, sFrz, sExpr, sApp, sExt, sPar, sRaise, evM, evML, eBin, eVar, eC, eUn, eCall, eLst, eTup, eAnd, eOr, eNot, eIf, eSl, eOpt, eChain, aAll, bVal, bNot, bAnd, bOr, bC, bYes, iSeq, iCall, gN, gT, gL, setAll, eLc_N, eLc_T, frz, r1, r2, h1, d2]
  rw [mapL_ok (g := sgp more) (fun k _ => by
    have h : more % 2 = 0 ∨ more % 2 = 1 := by omega
    unfold sgp
    rcases h with h | h
    · rw [h, if_pos rfl]
      simp [k2]
    · rw [h, if_neg (by decide)]
      simp [k2]) (by simp; omega)]
  rfl
theorem cls_shp (w : Nat) (ps : List Nat) : Shp 2 (clsD w ps) := shp_list (shpA_of fun d hd => by
  obtain ⟨k, _, rfl⟩ := List.mem_map.mp hd
  exact shp_list (shpA_ints 0 _))
theorem cls_head {w : Nat} {ss : List PyData} {ps : List Nat} (h : PlOk w ss ps) : ∃ ds rest, clsD w ps = .list (.list ds :: rest) ∧ ds.length ≤ 10 := by
  have : kinds ps w ≠ [] := fun z => by
    obtain ⟨p, r, hp⟩ := List.exists_cons_of_ne_nil h.n
    have hm : p ∈ ps := by rw [hp]; exact List.mem_cons_self
    have : p ∈ kinds ps w := List.mem_filter.mpr ⟨List.mem_range.mpr (h.p p hm), by simpa using hm⟩
    rw [z] at this
    cases this
  obtain ⟨k, r, hk⟩ := List.exists_cons_of_ne_nil this
  refine ⟨(clsAt ps k).map .int, r.map fun k => wsD (clsAt ps k), ?_, ?_⟩
  · unfold clsD
    rw [hk]
    rfl
  · have := clsAt_len (ps := ps) (k := k)
    have := h.n9
    simp
    omega
def mrg (ps : List Nat) : List Nat := ps.map fun p => if p = 0 then 0 else 1
theorem sg2_ok : SightsOk [.tuple [.int 0], .tuple [.int 1]] := by
  refine ⟨⟨1, by decide, fun s hs => ?_⟩, ?_⟩
  · simp only [List.mem_cons, List.not_mem_nil, or_false] at hs
    rcases hs with rfl | rfl <;> exact shp_tuple (shpA_cons (shp_int _ _) (shpA_nil _))
  · exact ⟨by simp [ltD, ltL, PyData.eqv], trivial⟩
theorem mrg_ok {w : Nat} {ss : List PyData} {ps : List Nat} (h : PlOk w ss ps) : PlOk 2 [.tuple [.int 0], .tuple [.int 1]] (mrg ps) := by
  refine ⟨sg2_ok, rfl, by decide, by decide, fun p hp => ?_, by simpa [mrg] using h.n, by simp [mrg]; exact h.n9⟩
  obtain ⟨q, _, rfl⟩ := List.mem_map.mp hp
  split <;> decide
theorem mrg_fine {w : Nat} {ss : List PyData} {ps : List Nat} (h : PlOk w ss ps) : fineB w ps (mrg ps) = true := by
  unfold fineB
  rw [List.all_eq_true]
  intro k hk
  have hkp : k ∈ ps := by simpa using (List.mem_filter.mp hk).2
  obtain ⟨i0, hi0⟩ := List.mem_iff_getElem?.mp hkp
  have hc0 : (i0 : Int) ∈ clsAt ps k := clsAt_mem.mpr ⟨i0, hi0, rfl⟩
  have all : ∀ j ∈ clsAt ps k, gN0 (mrg ps) j.toNat = if k = 0 then 0 else 1 := fun j hj => by
    obtain ⟨i, hi, rfl⟩ := clsAt_mem.mp hj
    simp [gN0, mrg, List.getD, hi]
  have e : srtI ((clsAt ps k).map fun j => ((gN0 (mrg ps) j.toNat : Nat) : Int)) = [((if k = 0 then 0 else 1 : Nat) : Int)] := by
    refine lt_unique (srtI_lt _) (by simp) fun x => ?_
    rw [mem_srtI, List.mem_map, List.mem_singleton]
    constructor
    · rintro ⟨j, hj, rfl⟩
      rw [all j hj]
    · rintro rfl
      exact ⟨_, hc0, by rw [all _ hc0]⟩
  rw [e]
  rfl
/-- a row with a share between -/
noncomputable def halfR (many : Nat) : List (List Rat) := [(2 : Rat)⁻¹, (2 : Rat)⁻¹] :: List.replicate (many - 1) [1, 0]
theorem half_fr : PyData.tuple [.int 1, .int 2] = frD (2 : Rat)⁻¹ := by
  have := fr_inv 2 (by decide)
  simpa using this
theorem half_ok (many : Nat) (h : many ≤ 9) (h1 : 1 ≤ many) : TabOk 2 10 [.tuple [.int 0], .tuple [.int 1]] (halfR many) := by
  refine ⟨sg2_ok, by simp, by simp [halfR], fun row hr => ?_, by simp, by simp [halfR]; omega, by decide⟩
  unfold halfR at hr
  have e2 : (2 : Rat)⁻¹ + ((2 : Rat)⁻¹ + 0) = 1 := by
    have : (2 : Rat) * (2 : Rat)⁻¹ = 1 := Rat.mul_inv_cancel _ (by decide)
    grind
  rcases List.mem_cons.mp hr with rfl | hr
  · refine ⟨⟨fun r hr => ?_, fun r hr => ?_, ?_⟩, rfl⟩
    · have : r = (2 : Rat)⁻¹ := by simpa using hr
      subst this
      exact bq_inv (by decide) ⟨by decide, by decide⟩
    · have : r = (2 : Rat)⁻¹ := by simpa using hr
      subst this
      exact Rat.le_of_lt (Rat.inv_pos.mpr (by decide))
    · rw [qsum, qsum, qsum]
      exact e2
  · have := List.eq_of_mem_replicate hr
    subst this
    refine ⟨⟨fun r hr => ?_, fun r hr => ?_, ?_⟩, rfl⟩
    · have : r = 1 ∨ r = 0 := by simpa using hr
      rcases this with rfl | rfl
      · exact ⟨by decide, by decide⟩
      · exact ⟨by decide, by decide⟩
    · have : r = 1 ∨ r = 0 := by simpa using hr
      rcases this with rfl | rfl
      · decide
      · exact Rat.le_refl
    · rw [qsum, qsum, qsum]
      grind
theorem half_no (many : Nat) (h : many ≤ 9) (h1 : 1 ≤ many) : g_need_plain [tabD [.tuple [.int 0], .tuple [.int 1]] (halfR many)] = .ex 5 := by
  rw [needplain_gen (half_ok many h h1), if_neg]
  unfold isPl halfR
  rw [List.all_cons]
  have : isPlR [(2 : Rat)⁻¹, (2 : Rat)⁻¹] = false := by
    have a : (2 : Rat)⁻¹ ≠ 0 := fun z => by
      have : (0 : Rat) < (2 : Rat)⁻¹ := Rat.inv_pos.mpr (by decide)
      rw [z] at this
      exact Rat.lt_irrefl this
    have b : (2 : Rat)⁻¹ ≠ 1 := fun z => by
      have : (2 : Rat) * (2 : Rat)⁻¹ = 1 := Rat.mul_inv_cancel _ (by decide)
      rw [z] at this
      grind
    simp [isPlR, a, b]
  rw [this]
  simp
/-! sorting -/
def srI (xs : List Int) : List Int := xs.mergeSort fun a b => decide (a ≤ b)
def srL (F : List (List Int)) : List (List Int) := F.mergeSort fun a b => decide (a ≤ b)
theorem srI_perm (xs : List Int) : (srI xs).Perm xs := List.mergeSort_perm _ _
theorem srL_perm (F : List (List Int)) : (srL F).Perm F := List.mergeSort_perm _ _
theorem srI_pw (xs : List Int) : (srI xs).Pairwise (· ≤ ·) := by
  have := List.pairwise_mergeSort (le := fun a b : Int => decide (a ≤ b)) (fun a b c h1 h2 => by simp at *; omega) (fun a b => by simp; omega) xs
  exact this.imp fun h => by simpa using h
theorem srI_eq {xs ys : List Int} (h : xs.Perm ys) (hy : ys.Pairwise (· ≤ ·)) : srI xs = ys :=
  List.Perm.eq_of_pairwise (le := fun a b : Int => a ≤ b) (fun a b _ _ h1 h2 => by omega) (srI_pw xs) hy ((srI_perm xs).trans h)
theorem srL_idem (F : List (List Int)) : srL (srL F) = srL F := by
  refine List.mergeSort_of_pairwise ?_
  refine List.pairwise_mergeSort (fun a b c h1 h2 => ?_) (fun a b => ?_) F
  · rw [decide_eq_true_eq] at *
    exact List.le_trans h1 h2
  · rw [Bool.or_eq_true, decide_eq_true_eq, decide_eq_true_eq]
    exact List.le_total a b
theorem dSort_ints (xs : List Int) : dSort (xs.map PyData.int) = (srI xs).map PyData.int := by
  unfold dSort srI
  refine (List.map_mergeSort fun a _ b _ => ?_).symm
  have := congrFun (congrFun (PySem.W.dataLe_int (id : Int → Int)) a) b
  exact this.symm
theorem dSort_rows (F : List (List Int)) : dSort (F.map wsD) = (srL F).map wsD := by
  unfold dSort srL
  refine (List.map_mergeSort fun a _ b _ => ?_).symm
  have := congrFun (congrFun (PySem.W.dataLe_rows (id : List Int → List Int)) a) b
  exact this.symm
theorem alikeAll_ints : ∀ xs ys : List Int, PySem.W.alikeAll (xs.map PyData.int) (ys.map PyData.int) = true
  | [], _ => by simp [PySem.W.alikeAll]
  | _ :: _, [] => by simp [PySem.W.alikeAll]
  | x :: xs, y :: ys => by simp [PySem.W.alikeAll, PySem.W.alike, alikeAll_ints xs ys]
theorem okSort_ints (xs : List Int) : okSort (xs.map PyData.int) = true := by
  unfold okSort
  simp only [Bool.and_eq_true, Bool.or_eq_true, List.all_eq_true]
  refine ⟨⟨fun d hd e he => ?_, .inr fun d hd => ?_⟩, fun d hd => ?_⟩
  · obtain ⟨a, _, rfl⟩ := List.mem_map.mp hd
    obtain ⟨b, _, rfl⟩ := List.mem_map.mp he
    simp [PySem.W.alike]
  · obtain ⟨a, _, rfl⟩ := List.mem_map.mp hd
    rfl
  · obtain ⟨a, _, rfl⟩ := List.mem_map.mp hd
    exact shaped_int a
theorem okSort_rows (F : List (List Int)) : okSort (F.map wsD) = true := by
  unfold okSort
  simp only [Bool.and_eq_true, Bool.or_eq_true, List.all_eq_true]
  refine ⟨⟨fun d hd e he => ?_, .inr fun d hd => ?_⟩, fun d hd => ?_⟩
  · obtain ⟨a, _, rfl⟩ := List.mem_map.mp hd
    obtain ⟨b, _, rfl⟩ := List.mem_map.mp he
    exact alikeAll_ints a b
  · obtain ⟨a, _, rfl⟩ := List.mem_map.mp hd
    rfl
  · obtain ⟨a, _, rfl⟩ := List.mem_map.mp hd
    exact shaped_ints a
theorem gSort_ints (xs : List Int) (h : xs.length ≤ 900000) : gSortD [wsD xs] = .ok (wsD (srI xs)) := by
  unfold gSortD wsD
  dsimp only
  rw [if_pos ⟨okSort_ints xs, by rw [List.length_map]; exact Nat.le_trans h (by rw [szl_eq]; decide)⟩, dSort_ints]
noncomputable def grD (F : List (List Int)) : PyData := .list (F.map wsD)
theorem gSort_rows (F : List (List Int)) (h : F.length ≤ 900000) : gSortD [grD F] = .ok (grD (srL F)) := by
  unfold gSortD grD
  dsimp only
  rw [if_pos ⟨okSort_rows F, by rw [List.length_map]; exact Nat.le_trans h (by rw [szl_eq]; decide)⟩, dSort_rows]
/-! the order of the classes -/
def gH (hs : List Int) (i : Int) : Int := hs.getD i.toNat 0
def rgI (m : Nat) : List Int := (List.range m).map fun i : Nat => (i : Int)
def ordI (hs : List Int) : List Int := srtK hs (rgI hs.length)
theorem rgI_mem {m : Nat} {i : Int} : i ∈ rgI m ↔ 0 ≤ i ∧ i < m := by
  unfold rgI
  rw [List.mem_map]
  constructor
  · rintro ⟨n, hn, rfl⟩
    have := List.mem_range.mp hn
    omega
  · rintro ⟨h0, h1⟩
    exact ⟨i.toNat, List.mem_range.mpr (by omega), by omega⟩
theorem rgI_len (m : Nat) : (rgI m).length = m := by simp [rgI]
theorem rgI_nodup (m : Nat) : (rgI m).Nodup := by
  unfold rgI
  rw [List.Nodup, List.pairwise_map]
  exact List.nodup_range.imp fun h z => h (by omega)
theorem rgI_pw (m : Nat) : (rgI m).Pairwise (· ≤ ·) := by
  unfold rgI
  rw [List.pairwise_map]
  exact (List.pairwise_lt_range (n := m)).imp fun h => by omega
theorem ordI_perm (hs : List Int) : (ordI hs).Perm (rgI hs.length) := List.mergeSort_perm _ _
theorem ordI_len (hs : List Int) : (ordI hs).length = hs.length := by rw [(ordI_perm hs).length_eq, rgI_len]
theorem ordI_pw (hs : List Int) : (ordI hs).Pairwise fun p q => gH hs q ≤ gH hs p := by
  have e : PySem.W.dataLe false (keyI hs) = fun p q : Int => decide (0 - gH hs p < 0 - gH hs q ∨ (0 - gH hs p = 0 - gH hs q ∧ p ≤ q)) := PySem.W.dataLe_ii (fun b : Int => 0 - gH hs b) (fun b => b)
  unfold ordI srtK
  rw [e]
  have := List.pairwise_mergeSort (le := fun p q : Int => decide (0 - gH hs p < 0 - gH hs q ∨ (0 - gH hs p = 0 - gH hs q ∧ p ≤ q))) (fun a b c h1 h2 => by simp at *; omega) (fun a b => by simp; omega) (rgI hs.length)
  exact this.imp fun h => by simp at h; omega
/-- the heights in that order -/
def hgo (hs : List Int) : List Int := (ordI hs).map (gH hs)
theorem map_rgI (hs : List Int) : (rgI hs.length).map (gH hs) = hs := by
  unfold rgI
  rw [List.map_map]
  apply List.ext_getElem
  · simp
  · intro i h1 h2
    simp [gH, h2]
theorem hgo_perm (hs : List Int) : (hgo hs).Perm hs := by
  have := (ordI_perm hs).map (gH hs)
  rw [map_rgI] at this
  exact this
theorem hgo_len (hs : List Int) : (hgo hs).length = hs.length := (hgo_perm hs).length_eq
theorem hgo_pw (hs : List Int) : (hgo hs).Pairwise fun a b => b ≤ a := by
  unfold hgo
  rw [List.pairwise_map]
  exact ordI_pw hs
theorem srI_hgo (hs : List Int) : srI hs = (hgo hs).reverse := by
  refine srI_eq ((hgo_perm hs).symm.trans (List.reverse_perm _).symm) ?_
  rw [List.pairwise_reverse]
  exact hgo_pw hs
theorem sum_perm {a b : List Int} (h : a.Perm b) : a.sum = b.sum := by
  induction h with
  | nil => rfl
  | cons x _ ih => simp [ih]
  | swap x y l => simp; omega
  | trans _ _ h1 h2 => omega
theorem sum_rev (a : List Int) : a.reverse.sum = a.sum := sum_perm (List.reverse_perm a)
/-- what is told with so many classes together -/
def lft (hs : List Int) (many : Nat) : Int := (hgo hs).headD 0 + ((hgo hs).drop many).sum
theorem lft_one {hs : List Int} (h : hs ≠ []) : lft hs 1 = hs.sum := by
  unfold lft
  rw [← sum_perm (hgo_perm hs)]
  cases q : hgo hs with
  | nil =>
    have := hgo_len hs
    rw [q] at this
    cases hs with
    | nil => exact absurd rfl h
    | cons _ _ => simp at this
  | cons a r => simp
theorem lft_succ {hs : List Int} {many : Nat} (h : many < hs.length) : lft hs many = lft hs (many + 1) + gH hs ((ordI hs).getD many 0) := by
  unfold lft
  have hl : many < (hgo hs).length := by rw [hgo_len]; exact h
  rw [List.drop_eq_getElem_cons hl]
  have ho : many < (ordI hs).length := by rw [ordI_len]; exact h
  have : (hgo hs)[many] = gH hs ((ordI hs).getD many 0) := by
    simp [hgo, List.getD, ho]
  rw [this, List.sum_cons]
  omega
/-- the law's sum: the greatest and so many of the least -/
theorem law_lft {hs : List Int} (hne : hs ≠ []) {g : Nat} (h1 : 1 ≤ g) (h2 : g ≤ hs.length) : gH (srI hs) ((hs.length : Int) - 1) + ((srI hs).take (g - 1)).sum = lft hs (hs.length + 1 - g) := by
  have hl := hgo_len hs
  rw [srI_hgo]
  unfold lft gH
  have e1 : (hgo hs).reverse.getD (((hs.length : Int) - 1).toNat) 0 = (hgo hs).headD 0 := by
    cases q : hgo hs with
    | nil => rw [q] at hl; simp at hl; omega
    | cons a r =>
      rw [q] at hl
      simp at hl
      have : ((hs.length : Int) - 1).toNat = r.length := by omega
      rw [this]
      simp [List.getD]
  rw [e1, List.take_reverse, sum_rev, hl, show hs.length - (g - 1) = hs.length + 1 - g by omega]
/-! the program's groups -/
theorem rngF_ints (m : Nat) : rngF 0 m = (rgI m).map PyData.int := by
  unfold rngF rgI
  rw [List.map_map]
  refine List.map_congr_left fun i _ => ?_
  simp
theorem lstRg_ok (m : Nat) (h : m ≤ 900000) : dLstRg (.int (m : Int)) = .ok (wsD (rgI m)) := by
  unfold dLstRg
  dsimp only
  have h1 := szl_eq
  have h2 := lim_eq
  rw [if_pos ⟨by omega, by rw [Int.toNat_natCast]; omega⟩, Int.toNat_natCast, rngF_ints]
  rfl
theorem len_ws (xs : List Int) : gLen [wsD xs] = .ok (.int (xs.length : Int)) := gLen_map _ _
theorem order_ok (hs : List Int) (h : hs.length ≤ 900000) : g_order_of [wsD hs] = .ok (wsD (ordI hs)) := by
  have l1 := len_ws hs
  have l2 := lstRg_ok hs.length h
  have hz := szl_eq
  have sk : gSK (some (some (wsD hs))) [wsD (rgI hs.length)] = .ok (wsD (ordI hs)) := by
    unfold gSK wsD
    dsimp only
    rw [intsOf_map, intsOf_map]
    dsimp only
    rw [if_pos ⟨fun i hi => rgI_mem.mp hi, by rw [rgI_len]; omega, by omega⟩]
    rfl
  rw [g_order_of_eq]
  unfold fb_order_of
  simp [runB, entry, sRet, eSortK, aAll, eUn, eCall, eVar, l1, l2, sk]
def hgt (ws : List Int) (c : List Int) : Int := maxL (c.map fun j : Int => gI ws j.toNat)
def hgs (w : Nat) (ps : List Nat) (ws : List Int) : List Int := (kinds ps w).map fun k => hgt ws (clsAt ps k)
theorem clsAt_rng {ps : List Nat} {k : Nat} {j : Int} (h : j ∈ clsAt ps k) : 0 ≤ j ∧ j < ps.length := by
  obtain ⟨i, hi, rfl⟩ := clsAt_mem.mp h
  have : i < ps.length := (List.getElem?_eq_some_iff.mp hi).1
  omega
theorem gMaxL_ints {xs : List Int} (h : xs ≠ []) : gMaxL [wsD xs] = .ok (.int (maxL xs)) := by
  unfold gMaxL wsD
  dsimp only
  rw [intsOf_map]
  cases xs with
  | nil => exact absurd rfl h
  | cons a r => rfl
theorem gSum_wz (xs : List Int) : gSum [wsD xs] = .ok (.int xs.sum) := by
  unfold gSum wsD
  dsimp only
  rw [intsOf_map]
theorem it_ws (xs : List Int) : itemsOf (wsD xs) = .ok (xs.map PyData.int) := rfl
/-- max([weights[j] for j in part]) -/
theorem hgt_ok {ps : List Nat} {ws : List Int} (hl : ws.length = ps.length) (h9 : ps.length ≤ 900000) (k : Nat) (hk : k ∈ ps) : (mapL (fun d => dIx (wsD ws) d) ((clsAt ps k).map PyData.int)).bind (fun x => gMaxL [x]) = .ok (.int (hgt ws (clsAt ps k))) := by
  have hc := clsAt_len (ps := ps) (k := k)
  rw [mapL_ok (enc := PyData.int) (g := fun j : Int => .int (gI ws j.toNat)) (fun j hj => by
    obtain ⟨h0, h1⟩ := clsAt_rng hj
    have := dIx_ws ws j.toNat (by omega)
    rwa [show ((j.toNat : Nat) : Int) = j by omega] at this) (by omega), R.bind_ok]
  have e : PyData.list ((clsAt ps k).map fun j : Int => PyData.int (gI ws j.toNat)) = wsD ((clsAt ps k).map fun j : Int => gI ws j.toNat) := by
    unfold wsD
    rw [List.map_map]
    rfl
  rw [e, gMaxL_ints]
  · rfl
  · intro z
    have : clsAt ps k = [] := by simpa using z
    exact clsAt_nil.mp this hk
theorem kinds_mem {w : Nat} {ps : List Nat} {k : Nat} (h : k ∈ kinds ps w) : k ∈ ps := by simpa using (List.mem_filter.mp h).2
theorem PlOk.kne {w : Nat} {ss : List PyData} {ps : List Nat} (h : PlOk w ss ps) : kinds ps w ≠ [] := by
  intro z
  cases q : ps with
  | nil => exact h.n q
  | cons p r =>
    have hp : p ∈ ps := by rw [q]; exact List.mem_cons_self
    have : p ∈ kinds ps w := List.mem_filter.mpr ⟨List.mem_range.mpr (h.p p hp), by simpa using hp⟩
    rw [z] at this
    cases this
theorem hgs_len (w : Nat) (ps : List Nat) (ws : List Int) : (hgs w ps ws).length = (kinds ps w).length := by simp [hgs]
theorem PlOk.hne {w : Nat} {ss : List PyData} {ps : List Nat} (h : PlOk w ss ps) (ws : List Int) : hgs w ps ws ≠ [] := by
  intro z
  have := hgs_len w ps ws
  rw [z] at this
  have hk := h.kne
  cases q : kinds ps w with
  | nil => exact hk q
  | cons _ _ => rw [q] at this; simp at this
/-- the heights' list -/
theorem PlOk.hts {w : Nat} {ss : List PyData} {ps : List Nat} (h : PlOk w ss ps) {ws : List Int} (hl : ws.length = ps.length) : mapL (fun part => (itemsOf part).bind fun ds => (mapL (fun d => dIx (wsD ws) d) ds).bind fun x => gMaxL [x]) ((kinds ps w).map fun k => wsD (clsAt ps k)) = .ok (wsD (hgs w ps ws)) := by
  have n9 := h.n9
  have w9 := h.w9
  have kl := kinds_len (w := w) (ps := ps)
  rw [mapL_ok (enc := fun k => wsD (clsAt ps k)) (g := fun k => .int (hgt ws (clsAt ps k))) (fun k hk => by
    rw [it_ws, R.bind_ok]
    exact hgt_ok hl (by omega) k (kinds_mem hk)) (by omega)]
  unfold wsD hgs
  rw [List.map_map]
  rfl
/-- more is told than may be -/
def cnd (hs : List Int) (b0 b1 whole : Int) (j : Nat) : Prop := b0 * whole < lft hs j * b1
instance (hs : List Int) (b0 b1 whole : Int) (j : Nat) : Decidable (cnd hs b0 b1 whole j) := by unfold cnd; infer_instance
noncomputable def bndD (b0 b1 : Int) : PyData := .tuple [.int b0, .int b1]
structure BnOk (b0 b1 : Int) : Prop where
  a1 : -18446744073709551616 < b0
  a2 : b0 < 18446744073709551616
  c1 : -18446744073709551616 < b1
  c2 : b1 < 18446744073709551616
noncomputable def gE (T W B C Hh O : PyData) (left : Int) (many : Nat) : Ev := [.pu T, .pu W, .pu B, .pu C, .pu Hh, .pu O, .pu (.int left), .pu (.int (many : Int)), .no, .no, .no]
theorem dIx_gH (hs : List Int) (i : Int) (h0 : 0 ≤ i) (h1 : i < hs.length) : dIx (wsD hs) (.int i) = .ok (.int (gH hs i)) := by
  have := dIx_ws hs i.toNat (by omega)
  rwa [show ((i.toNat : Nat) : Int) = i by omega] at this
theorem grp_test (T W C Hh O : PyData) (ws : List Int) (hW : W = wsD ws) (b0 b1 : Int) (hb : BnOk b0 b1) (left : Int) (many : Nat) : (bVal (eBin dGt (eBin dMul (eVar 6) (eBin dIx (eVar 2) (eC (.int 1)))) (eBin dMul (eBin dIx (eVar 2) (eC (.int 0))) (eCall gSum [(eVar 1)])))) ((gE T W (bndD b0 b1) C Hh O left many).map Sl.full) = .ok (decide (b0 * ws.sum < left * b1)) := by
  subst hW
  have i1 : dIx (bndD b0 b1) (.int 1) = .ok (.int b1) := by simp [bndD]
  have i0 : dIx (bndD b0 b1) (.int 0) = .ok (.int b0) := by simp [bndD]
  have m1 : dMul (.int left) (.int b1) = .ok (.int (left * b1)) := dMul_int (mulOk_r hb.c1 hb.c2)
  have m0 : dMul (.int b0) (.int ws.sum) = .ok (.int (b0 * ws.sum)) := dMul_int (mulOk_l hb.a1 hb.a2)
  unfold gE
  simp [bVal, eBin, eVar, eC, eCall, aAll, i1, i0, m1, m0, gSum_wz, Sl.full]
theorem grp_turn (T W B C : PyData) (hs : List Int) (left : Int) (many : Nat) (h1 : 1 ≤ many) (h2 : many ≤ hs.length) : lp_groups_0 (gE T W B C (wsD hs) (wsD (ordI hs)) left many) = if many = hs.length then .rt .none else .nx (gE T W B C (wsD hs) (wsD (ordI hs)) (left - gH hs ((ordI hs).getD many 0)) (many + 1)) := by
  have l1 := len_ws (ordI hs)
  rw [ordI_len] at l1
  unfold lp_groups_0 gE
  by_cases e : many = hs.length
  · rw [if_pos e]
    simp [runB, entry, sSeq, sAsg, sAsgT, sRet, sRetN, sIf, sNil, sOwn, sFor, sFrz, sExpr, sApp, sExt, sPar, sRaise, evM, evML, eBin, eVar, eC, eUn, eCall, eLst, eTup, eAnd, eOr, eNot, eIf, eSl, eOpt, eChain, aAll, bVal, bNot, bAnd, bOr, bC, bYes, iSeq, iCall, gN, gT, gL, setAll, eLc_N, eLc_T, frz, l1, e]
  · rw [if_neg e]
    have hm : many < (ordI hs).length := by rw [ordI_len]; omega
    have x1 := dIx_gH (ordI hs) (many : Int) (by omega) (by omega)
    have x2 : gH (ordI hs) (many : Int) = (ordI hs).getD many 0 := by simp [gH]
    rw [x2] at x1
    have hmem : (ordI hs).getD many 0 ∈ ordI hs := getD_mem hm
    obtain ⟨g0, g1⟩ := rgI_mem.mp ((ordI_perm hs).mem_iff.mp hmem)
    have x3 := dIx_gH hs _ g0 g1
    generalize (ordI hs).getD many 0 = o at *
    have ne : ¬ ((many : Int) = (hs.length : Int)) := by omega
    simp [runB, entry, sSeq, sAsg, sAsgT, sRet, sRetN, sIf, sNil, sOwn, sFor, sFrz, sExpr, sApp, sExt, sPar, sRaise, evM, evML, eBin, eVar, eC, eUn, eCall, eLst, eTup, eAnd, eOr, eNot, eIf, eSl, eOpt, eChain, aAll, bVal, bNot, bAnd, bOr, bC, bYes, iSeq, iCall, gN, gT, gL, setAll, eLc_N, eLc_T, frz, l1, ne, x1, x3]
theorem grp_while (T W C : PyData) (ws hs : List Int) (hW : W = wsD ws) (b0 b1 : Int) (hb : BnOk b0 b1) : ∀ (n many : Nat), 1 ≤ many → many ≤ hs.length → hs.length + 1 - many ≤ n →
    (∃ j, many ≤ j ∧ j ≤ hs.length ∧ ¬ cnd hs b0 b1 ws.sum j ∧ (∀ i, many ≤ i → i < j → cnd hs b0 b1 ws.sum i) ∧ whileF (bVal (eBin dGt (eBin dMul (eVar 6) (eBin dIx (eVar 2) (eC (.int 1)))) (eBin dMul (eBin dIx (eVar 2) (eC (.int 0))) (eCall gSum [(eVar 1)])))) lp_groups_0 n (gE T W (bndD b0 b1) C (wsD hs) (wsD (ordI hs)) (lft hs many) many) = .nx (gE T W (bndD b0 b1) C (wsD hs) (wsD (ordI hs)) (lft hs j) j)) ∨
    ((∀ i, many ≤ i → i ≤ hs.length → cnd hs b0 b1 ws.sum i) ∧ whileF (bVal (eBin dGt (eBin dMul (eVar 6) (eBin dIx (eVar 2) (eC (.int 1)))) (eBin dMul (eBin dIx (eVar 2) (eC (.int 0))) (eCall gSum [(eVar 1)])))) lp_groups_0 n (gE T W (bndD b0 b1) C (wsD hs) (wsD (ordI hs)) (lft hs many) many) = .rt .none)
  | 0, many, _, _, h3 => by omega
  | n + 1, many, h1, h2, h3 => by
    rw [whileF, grp_test T W C _ _ ws hW b0 b1 hb]
    by_cases c : cnd hs b0 b1 ws.sum many
    · have dc : decide (b0 * ws.sum < lft hs many * b1) = true := decide_eq_true c
      rw [dc]
      have tn := grp_turn T W (bndD b0 b1) C hs (lft hs many) many h1 h2
      simp only [R.outB, if_true]
      rw [tn]
      by_cases e : many = hs.length
      · rw [if_pos e]
        refine .inr ⟨fun i hi1 hi2 => ?_, rfl⟩
        have : i = many := by omega
        rw [this]
        exact c
      · rw [if_neg e]
        have sl := lft_succ (hs := hs) (many := many) (by omega)
        have : lft hs many - gH hs ((ordI hs).getD many 0) = lft hs (many + 1) := by omega
        rw [this]
        rcases grp_while T W C ws hs hW b0 b1 hb n (many + 1) (by omega) (by omega) (by omega) with ⟨j, j1, j2, j3, j4, j5⟩ | ⟨a1, a2⟩
        · refine .inl ⟨j, by omega, j2, j3, fun i hi1 hi2 => ?_, j5⟩
          by_cases q : i = many
          · rw [q]; exact c
          · exact j4 i (by omega) hi2
        · refine .inr ⟨fun i hi1 hi2 => ?_, a2⟩
          by_cases q : i = many
          · rw [q]; exact c
          · exact a1 i (by omega) hi2
    · have dc : decide (b0 * ws.sum < lft hs many * b1) = false := decide_eq_false c
      rw [dc]
      exact .inl ⟨many, Nat.le_refl _, h2, c, fun i hi1 hi2 => by omega, rfl⟩
/-- the groups, ahead of the sorting -/
def grp0 (hs : List Int) (j : Nat) : List (List Int) := srI ((ordI hs).take j) :: ((ordI hs).drop j).map fun at' => [at']
def grps (hs : List Int) (j : Nat) : List (List Int) := srL (grp0 hs j)
theorem sl_to (xs : List Int) (n : Nat) (h : n ≤ xs.length) : dSl (wsD xs) none (some (n : Int)) = .ok (wsD (xs.take n)) := by
  unfold wsD
  show R.ok (PyData.list (cutD _ _ _)) = _
  rw [cut_to _ _ (by simpa using h), List.map_take]
theorem sl_from (xs : List Int) (n : Nat) (h : n ≤ xs.length) : dSl (wsD xs) (some (n : Int)) none = .ok (wsD (xs.drop n)) := by
  unfold wsD
  show R.ok (PyData.list (cutD _ _ _)) = _
  rw [cut_from _ _ (by simpa using h), List.map_drop]
theorem grp_ret (T W B C : PyData) (hs : List Int) (left : Int) (j : Nat) (h2 : j ≤ hs.length) (h9 : hs.length ≤ 900) : (sRet (eCall gSortD [(eBin dAdd (eLst [(eCall gSortD [(eSl (eVar 5) none (some (eVar 7)))])]) (eLc (cN 10) (iSeq (eSl (eVar 5) (some (eVar 7)) none)) bYes (eLst [(eVar 10)])))])) (gE T W B C (wsD hs) (wsD (ordI hs)) left j) = .rt (grD (grps hs j)) := by
  have ol := ordI_len hs
  have s1 := sl_to (ordI hs) j (by omega)
  have s2 := sl_from (ordI hs) j (by omega)
  have o1 := gSort_ints ((ordI hs).take j) (by rw [List.length_take]; omega)
  have gl : (grp0 hs j).length ≤ 900000 := by simp [grp0]; omega
  have o2 := gSort_rows (grp0 hs j) gl
  have ad : dAdd (.list [wsD (srI ((ordI hs).take j))]) (.list (((ordI hs).drop j).map fun at' => PyData.list [.int at'])) = .ok (grD (grp0 hs j)) := by
    rw [dAdd_list (by simp; omega)]
    unfold grD grp0
    rw [List.map_cons, List.map_map]
    rfl
  have mp : mapL (fun d => R.ok (PyData.list [d])) (((ordI hs).drop j).map PyData.int) = .ok (.list (((ordI hs).drop j).map fun at' => PyData.list [.int at'])) := mapL_ok (enc := PyData.int) (g := fun at' : Int => PyData.list [.int at']) (fun _ _ => rfl) (by rw [List.length_drop]; omega)
  unfold gE
  simp [runB, entry, sSeq, sAsg, sAsgT, sRet, sRetN, sIf, sNil, sOwn, sFor, sFrz, sExpr, sApp, sExt, sPar, sRaise, evM, evML, eBin, eVar, eC, eUn, eCall, eLst, eTup, eAnd, eOr, eNot, eIf, eSl, eOpt, eChain, aAll, bVal, bNot, bAnd, bOr, bC, bYes, iSeq, iCall, gN, gT, gL, setAll, eLc_N, eLc_T, frz, s1, s2, o1, it_ws, mp, ad, o2, -List.map_drop, -List.map_take]
  rfl
section
variable {w mm : Nat} {ss : List PyData} {ps : List Nat} {ws : List Int}
theorem PlOk.len1 (h : PlOk w ss ps) : gLen [rowsD (plR w ps)] = .ok (.int (ps.length : Int)) := by
  rw [rowsD_eq, gLen_map]
  simp [plR]
theorem hgs_9 (h : PlOk w ss ps) (ws : List Int) : (hgs w ps ws).length ≤ 10 := by
  have := kinds_len (w := w) (ps := ps)
  have := h.w9
  rw [hgs_len]
  omega
theorem groups_ok (h : PlOk w ss ps) (hw : WsOk mm ws) (hl : ws.length = ps.length) (b0 b1 : Int) (hb : BnOk b0 b1) :
    (∃ j, 1 ≤ j ∧ j ≤ (hgs w ps ws).length ∧ ¬ cnd (hgs w ps ws) b0 b1 ws.sum j ∧ (∀ i, 1 ≤ i → i < j → cnd (hgs w ps ws) b0 b1 ws.sum i) ∧ g_groups [tabD ss (plR w ps), wsD ws, bndD b0 b1] = .ok (grD (grps (hgs w ps ws) j))) ∨
    ((∀ i, 1 ≤ i → i ≤ (hgs w ps ws).length → cnd (hgs w ps ws) b0 b1 ws.sum i) ∧ g_groups [tabD ss (plR w ps), wsD ws, bndD b0 b1] = .ok .none) := by
  have nw := hw.need
  rw [hl] at nw
  have hc := h.classes
  have ht := h.hts hl
  have h9 := hgs_9 h ws
  have hne := h.hne ws
  have it : itemsOf (clsD w ps) = .ok ((kinds ps w).map fun k => wsD (clsAt ps k)) := rfl
  have od := order_ok (hgs w ps ws) (by omega)
  have sm := gSum_ws (hgs w ps ws)
  have l1 : 1 ≤ (hgs w ps ws).length := by
    cases q : hgs w ps ws with
    | nil => exact absurd q hne
    | cons _ _ => simp
  have lo := lft_one hne
  have np := h.need
  have gl := h.len1
  generalize hgs w ps ws = hs at *
  have key : ∀ r : Out, (∀ C, (sSeq (sWhile 20 (bVal (eBin dGt (eBin dMul (eVar 6) (eBin dIx (eVar 2) (eC (.int 1)))) (eBin dMul (eBin dIx (eVar 2) (eC (.int 0))) (eCall gSum [(eVar 1)])))) lp_groups_0) (sRet (eCall gSortD [(eBin dAdd (eLst [(eCall gSortD [(eSl (eVar 5) none (some (eVar 7)))])]) (eLc (cN 10) (iSeq (eSl (eVar 5) (some (eVar 7)) none)) bYes (eLst [(eVar 10)])))]))) (gE (tabD ss (plR w ps)) (wsD ws) (bndD b0 b1) C (wsD hs) (wsD (ordI hs)) (lft hs 1) 1) = r) → g_groups [tabD ss (plR w ps), wsD ws, bndD b0 b1] = r.res := by
    intro r hr
    have hr := hr (clsD w ps)
    rw [g_groups_eq]
    unfold fb_groups runB
    congr 1
    refine seq_nx (e := [.pu (tabD ss (plR w ps)), .pu (wsD ws), .pu (bndD b0 b1), .no, .no, .no, .no, .no, .no, .no, .no]) (by simp [runB, entry, sSeq, sAsg, sAsgT, sRet, sRetN, sIf, sNil, sOwn, sFor, sFrz, sExpr, sApp, sExt, sPar, sRaise, evM, evML, eBin, eVar, eC, eUn, eCall, eLst, eTup, eAnd, eOr, eNot, eIf, eSl, eOpt, eChain, aAll, bVal, bNot, bAnd, bOr, bC, bYes, iSeq, iCall, gN, gT, gL, setAll, eLc_N, eLc_T, frz, np]) ?_
    refine seq_nx (e := [.pu (tabD ss (plR w ps)), .pu (wsD ws), .pu (bndD b0 b1), .no, .no, .no, .no, .no, .no, .no, .no]) (by simp [runB, entry, sSeq, sAsg, sAsgT, sRet, sRetN, sIf, sNil, sOwn, sFor, sFrz, sExpr, sApp, sExt, sPar, sRaise, evM, evML, eBin, eVar, eC, eUn, eCall, eLst, eTup, eAnd, eOr, eNot, eIf, eSl, eOpt, eChain, aAll, bVal, bNot, bAnd, bOr, bC, bYes, iSeq, iCall, gN, gT, gL, setAll, eLc_N, eLc_T, frz, tab_1, gl, nw]) ?_
    refine seq_nx (e := [.pu (tabD ss (plR w ps)), .pu (wsD ws), .pu (bndD b0 b1), .pu (clsD w ps), .no, .no, .no, .no, .no, .no, .no]) (by simp [runB, entry, sSeq, sAsg, sAsgT, sRet, sRetN, sIf, sNil, sOwn, sFor, sFrz, sExpr, sApp, sExt, sPar, sRaise, evM, evML, eBin, eVar, eC, eUn, eCall, eLst, eTup, eAnd, eOr, eNot, eIf, eSl, eOpt, eChain, aAll, bVal, bNot, bAnd, bOr, bC, bYes, iSeq, iCall, gN, gT, gL, setAll, eLc_N, eLc_T, frz, hc]) ?_
    refine seq_nx (e := [.pu (tabD ss (plR w ps)), .pu (wsD ws), .pu (bndD b0 b1), .pu (clsD w ps), .ow (wsD hs), .no, .no, .no, .no, .no, .no]) ?_ ?_
    · simp [sOwn, eLc_N, iSeq, eVar, it, eCall, aAll, eBin]
      have : ∀ (f : PyData → R PyData), (∀ d, f d = (itemsOf d).bind fun ds => (mapL (fun d => dIx (wsD ws) d) ds).bind fun x => gMaxL [x]) → mapL f ((kinds ps w).map fun k => wsD (clsAt ps k)) = .ok (wsD hs) := fun f hf => by
        rw [show f = fun d => (itemsOf d).bind fun ds => (mapL (fun d => dIx (wsD ws) d) ds).bind fun x => gMaxL [x] from funext hf]
        exact ht
      rw [this _ fun d => by
        cases itemsOf d with
        | ok ds =>
          simp
          cases mapL (fun d => dIx (wsD ws) d) ds <;> rfl
        | ex c => rfl
        | no => rfl]
      rfl
    · rw [← hr, lo]
      simp [runB, entry, sSeq, sAsg, sAsgT, sRet, sRetN, sIf, sNil, sOwn, sFor, sFrz, sExpr, sApp, sExt, sPar, sRaise, evM, evML, eBin, eVar, eC, eUn, eCall, eLst, eTup, eAnd, eOr, eNot, eIf, eSl, eOpt, eChain, aAll, bVal, bNot, bAnd, bOr, bC, bYes, iSeq, iCall, gN, gT, gL, setAll, eLc_N, eLc_T, frz, od, sm, gE]
  rcases grp_while (tabD ss (plR w ps)) (wsD ws) (clsD w ps) ws hs rfl b0 b1 hb 20 1 (Nat.le_refl _) l1 (by omega) with ⟨j, j1, j2, j3, j4, j5⟩ | ⟨a1, a2⟩
  · refine .inl ⟨j, j1, j2, j3, j4, ?_⟩
    rw [key (.rt (grD (grps hs j))) fun C => ?_]
    · rfl
    · rcases grp_while (tabD ss (plR w ps)) (wsD ws) C ws hs rfl b0 b1 hb 20 1 (Nat.le_refl _) l1 (by omega) with ⟨i, i1, i2, i3, i4, i5⟩ | ⟨b1, b2⟩
      · have : i = j := by
          rcases Nat.lt_trichotomy i j with z | z | z
          · exact absurd (j4 i i1 z) i3
          · exact z
          · exact absurd (i4 j j1 z) j3
        subst this
        exact seq_nx i5 (grp_ret _ _ _ _ hs _ i j2 (by omega))
      · exact absurd (b1 j j1 j2) j3
  · refine .inr ⟨a1, ?_⟩
    rw [key (.rt .none) fun C => ?_]
    · rfl
    · rcases grp_while (tabD ss (plR w ps)) (wsD ws) C ws hs rfl b0 b1 hb 20 1 (Nat.le_refl _) l1 (by omega) with ⟨i, i1, i2, i3, i4, i5⟩ | ⟨b1, b2⟩
      · exact absurd (a1 i i1 i2) i3
      · unfold sSeq sWhile
        rw [b2]
        rfl
end
/-! the law's own number -/
theorem dIx_last (xs : List Int) (h : xs ≠ []) : dIx (wsD xs) (.int (-1)) = .ok (.int (gH xs ((xs.length : Int) - 1))) := by
  have e : xs = xs.dropLast ++ [xs.getLast h] := (List.dropLast_concat_getLast h).symm
  have g : gH xs ((xs.length : Int) - 1) = xs.getLast h := by
    unfold gH
    rw [List.getLast_eq_getElem, show ((xs.length : Int) - 1).toNat = xs.length - 1 by omega]
    have : xs.length - 1 < xs.length := by
      cases xs with
      | nil => exact absurd rfl h
      | cons _ _ => simp
    simp [List.getD, this]
  have at1 : atI (xs.map PyData.int) (-1) = some (.int (xs.getLast h)) := by
    have := atI_last (xs.dropLast.map PyData.int) (PyData.int (xs.getLast h))
    rw [show xs.map PyData.int = xs.dropLast.map PyData.int ++ [PyData.int (xs.getLast h)] by
      conv => lhs; rw [e]
      simp]
    exact this
  unfold wsD dIx
  dsimp only
  rw [at1, g]
def stepL (hs : List Int) (b0 b1 whole : Int) (a : Nat) (g : Nat) : Nat := if cnd hs b0 b1 whole (hs.length + 1 - (g + 1)) then a else g + 1
theorem most_turn (hs : List Int) (hne : hs ≠ []) (h9 : hs.length ≤ 10) (b0 b1 whole : Int) (hb : BnOk b0 b1) (a g : Nat) (h2 : g < hs.length) :
    lp__law_most_groups_0 [.pu (wsD hs), .pu (bndD b0 b1), .pu (.int whole), .pu (wsD (srI hs)), .pu (.int (a : Int)), .pu (.int (1 + (g : Int)))] = .nx [.pu (wsD hs), .pu (bndD b0 b1), .pu (.int whole), .pu (wsD (srI hs)), .pu (.int ((stepL hs b0 b1 whole a g : Nat) : Int)), .pu (.int (1 + (g : Int)))] := by
  have sl : (srI hs).length = hs.length := (srI_perm hs).length_eq
  have sne : srI hs ≠ [] := fun z => by
    rw [z] at sl
    cases hs with
    | nil => exact hne rfl
    | cons _ _ => simp at sl
  have la := dIx_last (srI hs) sne
  rw [sl] at la
  have ll := law_lft hne (g := g + 1) (by omega) (by omega)
  rw [Nat.add_sub_cancel] at ll
  have st := sl_to (srI hs) g (by omega)
  have sm := gSum_ws ((srI hs).take g)
  have i1 : dIx (bndD b0 b1) (.int 1) = .ok (.int b1) := by simp [bndD]
  have i0 : dIx (bndD b0 b1) (.int 0) = .ok (.int b0) := by simp [bndD]
  have m1 : ∀ x, dMul (.int x) (.int b1) = .ok (.int (x * b1)) := fun x => dMul_int (mulOk_r hb.c1 hb.c2)
  have m0 : dMul (.int b0) (.int whole) = .ok (.int (b0 * whole)) := dMul_int (mulOk_l hb.a1 hb.a2)
  have e1 : (1 + (g : Int) - 1) = (g : Int) := by omega
  unfold lp__law_most_groups_0 stepL
  generalize gH (srI hs) ((hs.length : Int) - 1) = X at *
  generalize ((srI hs).take g).sum = Y at *
  have ci : cnd hs b0 b1 whole (hs.length + 1 - (g + 1)) ↔ b0 * whole < (X + Y) * b1 := by
    unfold cnd
    rw [← ll]
  by_cases q : cnd hs b0 b1 whole (hs.length + 1 - (g + 1))
  · rw [if_pos q]
    have dc : ¬ (X + Y) * b1 ≤ b0 * whole := by have := ci.mp q; omega
    simp [runB, entry, sSeq, sAsg, sAsgT, sRet, sRetN, sIf, sNil, sOwn, sFor, sFrz, sExpr, sApp, sExt, sPar, sRaise, evM, evML, eBin, eVar, eC, eUn, eCall, eLst, eTup, eAnd, eOr, eNot, eIf, eSl, eOpt, eChain, aAll, bVal, bNot, bAnd, bOr, bC, bYes, iSeq, iCall, gN, gT, gL, setAll, eLc_N, eLc_T, frz, dNeg, la, e1, st, sm, i1, i0, m1, m0, dc]
  · rw [if_neg q]
    have dc : (X + Y) * b1 ≤ b0 * whole := by
      rcases (by omega : (b0 * whole) < ((X + Y) * b1) ∨ (X + Y) * b1 ≤ b0 * whole) with z | z
      · exact absurd (ci.mpr z) q
      · exact z
    simp [runB, entry, sSeq, sAsg, sAsgT, sRet, sRetN, sIf, sNil, sOwn, sFor, sFrz, sExpr, sApp, sExt, sPar, sRaise, evM, evML, eBin, eVar, eC, eUn, eCall, eLst, eTup, eAnd, eOr, eNot, eIf, eSl, eOpt, eChain, aAll, bVal, bNot, bAnd, bOr, bC, bYes, iSeq, iCall, gN, gT, gL, setAll, eLc_N, eLc_T, frz, dNeg, la, e1, st, sm, i1, i0, m1, m0, dc]
    omega
/-- the greatest number of groups, or 0 -/
def dueN (hs : List Int) (b0 b1 whole : Int) : Nat := (List.range hs.length).foldl (stepL hs b0 b1 whole) 0
theorem rng2_map (m : Nat) (h : m ≤ 900) : rng2 [.int 1, .int ((m : Int) + 1)] = .ok ((List.range m).map fun i : Nat => .int (1 + (i : Int))) := by
  unfold rng2
  dsimp only
  have h2 := lim_eq
  rw [if_pos ⟨by omega, by omega, by omega, by omega⟩]
  unfold rngF
  rw [show ((m : Int) + 1 - 1).toNat = m by omega]
theorem most_ok (hs : List Int) (hne : hs ≠ []) (h9 : hs.length ≤ 10) (b0 b1 whole : Int) (hb : BnOk b0 b1) : g__law_most_groups [wsD hs, bndD b0 b1, .int whole] = .ok (.int ((dueN hs b0 b1 whole : Nat) : Int)) := by
  have sl : (srI hs).length = hs.length := (srI_perm hs).length_eq
  have so := gSort_ints hs (by omega)
  have ln := len_ws (srI hs)
  rw [sl] at ln
  have rg := rng2_map hs.length (by omega)
  obtain ⟨e, h1, ⟨x5, hx⟩⟩ := forF_fold (tg := gN 5) (body := lp__law_most_groups_0) (fun g : Nat => .int (1 + (g : Int))) (stepL hs b0 b1 whole) (fun a env => ∃ x5, env = [.pu (wsD hs), .pu (bndD b0 b1), .pu (.int whole), .pu (wsD (srI hs)), .pu (.int ((a : Nat) : Int)), x5]) (List.range hs.length) 0 [.pu (wsD hs), .pu (bndD b0 b1), .pu (.int whole), .pu (wsD (srI hs)), .pu (.int ((0 : Nat) : Int)), .no] ⟨_, rfl⟩ (fun a env ⟨x5, he⟩ g hg => by
    subst he
    exact ⟨_, _, rfl, most_turn hs hne h9 b0 b1 whole hb a g (List.mem_range.mp hg), _, rfl⟩)
  subst hx
  have h1 : forF (gN 5) lp__law_most_groups_0 ((List.range hs.length).map fun g : Nat => .int (1 + (g : Int))) [.pu (wsD hs), .pu (bndD b0 b1), .pu (.int whole), .pu (wsD (srI hs)), .pu (.int 0), .no] = .nx [.pu (wsD hs), .pu (bndD b0 b1), .pu (.int whole), .pu (wsD (srI hs)), .pu (.int ((dueN hs b0 b1 whole : Nat) : Int)), x5] := h1
  rw [g__law_most_groups_eq]
  unfold fb__law_most_groups
  simp [runB, entry, sSeq, sAsg, sAsgT, sRet, sRetN, sIf, sNil, sOwn, sFor, sFrz, sExpr, sApp, sExt, sPar, sRaise, evM, evML, eBin, eVar, eC, eUn, eCall, eLst, eTup, eAnd, eOr, eNot, eIf, eSl, eOpt, eChain, aAll, bVal, bNot, bAnd, bOr, bC, bYes, iSeq, iCall, gN, gT, gL, setAll, eLc_N, eLc_T, frz, so, ln, rg, h1]
theorem due_spec (hs : List Int) (b0 b1 whole : Int) : ∀ n, n ≤ hs.length → let a := (List.range n).foldl (stepL hs b0 b1 whole) 0
    (a = 0 ∧ ∀ g, g < n → cnd hs b0 b1 whole (hs.length - g)) ∨ (1 ≤ a ∧ a ≤ n ∧ ¬ cnd hs b0 b1 whole (hs.length + 1 - a) ∧ ∀ g, a ≤ g → g < n → cnd hs b0 b1 whole (hs.length - g))
  | 0, _ => .inl ⟨rfl, fun g h => by omega⟩
  | n + 1, h => by
    have ih := due_spec hs b0 b1 whole n (by omega)
    rw [List.range_succ, List.foldl_append]
    simp only [List.foldl_cons, List.foldl_nil]
    dsimp only at ih
    generalize (List.range n).foldl (stepL hs b0 b1 whole) 0 = a at *
    unfold stepL
    rw [show hs.length + 1 - (n + 1) = hs.length - n by omega]
    by_cases q : cnd hs b0 b1 whole (hs.length - n)
    · rw [if_pos q]
      rcases ih with ⟨e, f⟩ | ⟨e1, e2, e3, f⟩
      · refine .inl ⟨e, fun g hg => ?_⟩
        by_cases z : g = n
        · rw [z]; exact q
        · exact f g (by omega)
      · refine .inr ⟨e1, by omega, e3, fun g hg1 hg2 => ?_⟩
        by_cases z : g = n
        · rw [z]; exact q
        · exact f g hg1 (by omega)
    · rw [if_neg q]
      refine .inr ⟨by omega, by omega, ?_, fun g h1 h2 => by omega⟩
      rw [show hs.length + 1 - (n + 1) = hs.length - n by omega]
      exact q
theorem due_none {hs : List Int} {b0 b1 whole : Int} (h : ∀ i, 1 ≤ i → i ≤ hs.length → cnd hs b0 b1 whole i) : dueN hs b0 b1 whole = 0 := by
  rcases due_spec hs b0 b1 whole hs.length (Nat.le_refl _) with ⟨e, _⟩ | ⟨e1, e2, e3, _⟩
  · exact e
  · exact absurd (h _ (by omega) (by omega)) e3
theorem due_some {hs : List Int} {b0 b1 whole : Int} {j : Nat} (h1 : 1 ≤ j) (h2 : j ≤ hs.length) (h3 : ¬ cnd hs b0 b1 whole j) (h4 : ∀ i, 1 ≤ i → i < j → cnd hs b0 b1 whole i) : dueN hs b0 b1 whole = hs.length + 1 - j := by
  rcases due_spec hs b0 b1 whole hs.length (Nat.le_refl _) with ⟨e, f⟩ | ⟨e1, e2, e3, f⟩
  · exact absurd (by have := f (hs.length - j) (by omega); rwa [show hs.length - (hs.length - j) = j by omega] at this) h3
  · have e : dueN hs b0 b1 whole = (List.range hs.length).foldl (stepL hs b0 b1 whole) 0 := rfl
    rw [← e] at e1 e2 e3 f
    generalize dueN hs b0 b1 whole = a at *
    rcases Nat.lt_trichotomy (hs.length + 1 - a) j with z | z | z
    · exact absurd (h4 _ (by omega) z) e3
    · omega
    · have := f (hs.length - j) (by omega) (by omega)
      rw [show hs.length - (hs.length - j) = j by omega] at this
      exact absurd this h3
/-! what the groups are -/
section
variable {hs : List Int} {j : Nat}
theorem sing_flat (l : List Int) : (l.map fun a => [a]).flatten = l := by
  induction l with
  | nil => rfl
  | cons a r ih => simp [ih]
theorem grps_flat (hs : List Int) (j : Nat) : (grps hs j).flatten.Perm (rgI hs.length) := by
  refine (srL_perm (grp0 hs j)).flatten.trans ?_
  unfold grp0
  rw [List.flatten_cons, sing_flat]
  refine ((srI_perm _).append_right _).trans ?_
  rw [List.take_append_drop]
  exact ordI_perm hs
theorem grps_len (h : j ≤ hs.length) : (grps hs j).length = hs.length + 1 - j := by
  rw [grps, (srL_perm _).length_eq]
  simp [grp0, ordI_len]
  omega
theorem grps_each (h1 : 1 ≤ j) (h2 : j ≤ hs.length) : ∀ g ∈ grps hs j, srI g = g ∧ g ≠ [] := by
  intro g hg
  have hg := (srL_perm _).mem_iff.mp hg
  unfold grp0 at hg
  rcases List.mem_cons.mp hg with rfl | hg
  · refine ⟨srI_eq (List.Perm.refl _) (srI_pw _), fun z => ?_⟩
    have := (srI_perm ((ordI hs).take j)).length_eq
    rw [z, List.length_take, ordI_len] at this
    simp at this
    omega
  · obtain ⟨a, _, rfl⟩ := List.mem_map.mp hg
    exact ⟨srI_eq (List.Perm.refl _) (by simp), by simp⟩
theorem grps_mem {g : List Int} (hg : g ∈ grps hs j) {a : Int} (ha : a ∈ g) : 0 ≤ a ∧ a < hs.length :=
  rgI_mem.mp ((grps_flat hs j).mem_iff.mp (List.mem_flatten.mpr ⟨g, hg, ha⟩))
theorem maxL_eq {xs : List Int} {x : Int} (h1 : x ∈ xs) (h2 : ∀ y ∈ xs, y ≤ x) : maxL xs = x := by
  have hne : xs ≠ [] := fun z => by rw [z] at h1; cases h1
  obtain ⟨a, b⟩ := maxL_mem hne
  have := h2 _ a
  have := b _ h1
  omega
theorem grps_told (h1 : 1 ≤ j) (h2 : j ≤ hs.length) : ((grps hs j).map fun g => maxL (g.map (gH hs))).sum = lft hs j := by
  unfold grps
  rw [sum_perm ((srL_perm (grp0 hs j)).map _)]
  unfold grp0 lft
  rw [List.map_cons, List.sum_cons, List.map_map]
  have e2 : (((ordI hs).drop j).map ((fun g => maxL (g.map (gH hs))) ∘ fun at' => [at'])) = (hgo hs).drop j := by
    unfold hgo
    rw [← List.map_drop]
    rfl
  rw [e2]
  congr 1
  have pw := hgo_pw hs
  have ol := ordI_len hs
  cases q : ordI hs with
  | nil => rw [q] at ol; simp at ol; omega
  | cons o r =>
    have hq : hgo hs = gH hs o :: r.map (gH hs) := by unfold hgo; rw [q]; rfl
    rw [hq, List.headD_cons]
    rw [hq] at pw
    refine maxL_eq ?_ fun y hy => ?_
    · refine List.mem_map.mpr ⟨o, (srI_perm _).mem_iff.mpr ?_, rfl⟩
      cases j with
      | zero => omega
      | succ j => rw [List.take_succ_cons]; exact List.mem_cons_self
    · obtain ⟨a, ha, rfl⟩ := List.mem_map.mp hy
      have ha := List.mem_of_mem_take ((srI_perm _).mem_iff.mp ha)
      rcases List.mem_cons.mp ha with rfl | ha
      · exact Int.le_refl _
      · exact (List.pairwise_cons.mp pw).1 _ (List.mem_map.mpr ⟨a, ha, rfl⟩)
end
/-- the place of the group that has it -/
def plc (F : List (List Int)) (a : Int) : Nat := F.findIdx fun g => decide (a ∈ g)
structure Parts (F : List (List Int)) (m : Nat) : Prop where
  p : F.flatten.Perm (rgI m)
theorem Parts.at' {F : List (List Int)} {m : Nat} (h : Parts F m) {a : Int} (h0 : 0 ≤ a) (h1 : a < m) : plc F a < F.length ∧ ∀ (i : Nat) (g : List Int), F[i]? = some g → decide (a ∈ g) = decide (i = plc F a) := by
  have hm : a ∈ F.flatten := h.p.mem_iff.mpr (rgI_mem.mpr ⟨h0, h1⟩)
  obtain ⟨g, hg, hag⟩ := List.mem_flatten.mp hm
  have hl : plc F a < F.length := List.findIdx_lt_length.mpr ⟨g, hg, by simpa using hag⟩
  have hin : a ∈ F[plc F a] := by
    have := List.findIdx_getElem (p := fun g => decide (a ∈ g)) (xs := F) (w := hl)
    exact of_decide_eq_true this
  refine ⟨hl, fun i g hi => ?_⟩
  obtain ⟨hil, rfl⟩ := List.getElem?_eq_some_iff.mp hi
  rw [decide_eq_decide]
  constructor
  · intro ha
    have nd : F.flatten.Nodup := h.p.nodup_iff.mpr (rgI_nodup m)
    have pw := List.pairwise_iff_getElem.mp (List.pairwise_flatten.mp nd).2
    rcases Nat.lt_trichotomy i (plc F a) with z | z | z
    · exact absurd rfl (pw i _ hil hl z a ha a hin)
    · exact z
    · exact absurd rfl (pw _ i hl hil z a hin a ha)
  · intro e
    subst e
    exact hin
theorem Parts.flt {F : List (List Int)} {m : Nat} (h : Parts F m) {a : Int} (h0 : 0 ≤ a) (h1 : a < m) : ∃ g, F.zipIdx.filter (fun q => decide (a ∈ q.1)) = [(g, plc F a)] := by
  obtain ⟨hl, hu⟩ := h.at' h0 h1
  have e : F.zipIdx.filter (fun q => decide (a ∈ q.1)) = F.zipIdx.filter (fun q => decide (q.2 = plc F a)) := by
    refine List.filter_congr fun q hq => ?_
    exact hu q.2 q.1 (List.mem_zipIdx_iff_getElem?.mp hq)
  rw [e]
  have key : ∀ (l : List (List Int)) (k p : Nat), k ≤ p → (hp : p < k + l.length) → ∃ g, (l.zipIdx k).filter (fun q => decide (q.2 = p)) = [(g, p)] := by
    intro l
    induction l with
    | nil => intro k p h1 h2; simp at h2; omega
    | cons x l ih =>
      intro k p h1 h2
      rw [List.zipIdx_cons]
      by_cases z : k = p
      · subst z
        refine ⟨x, ?_⟩
        rw [List.filter_cons_of_pos (by simp)]
        congr 1
        rw [List.filter_eq_nil_iff]
        intro q hq
        have := List.le_snd_of_mem_zipIdx hq
        simp
        omega
      · rw [List.filter_cons_of_neg (by simpa using z)]
        exact ih (k + 1) p (by omega) (by simp at h2; omega)
  exact key F 0 _ (by omega) (by omega)
/-! the dict of rows -/
theorem isK_int {r : Int} {d : PyData} : isK (.inl r) d = true ↔ d = .int r := by
  cases d with
  | int i =>
    simp only [isK, decide_eq_true_eq, PyData.int.injEq]
    exact ⟨fun h => h.symm, fun h => h.symm⟩
  | _ => simp [isK]
theorem look_put (kvs : List (PyData × PyData)) (r x : Int) (d : PyData) : dLook (dPut kvs (.inl r) d) (.inl x) = if x = r then some d else dLook kvs (.inl x) := by
  unfold dPut
  by_cases hh : dHas kvs (.inl r) = true
  · rw [if_pos hh]
    induction kvs with
    | nil => simp [dHas] at hh
    | cons p q ih =>
      rw [List.map_cons]
      by_cases hp : isK (.inl r) p.1 = true
      · have ep := isK_int.mp hp
        rw [if_pos hp]
        by_cases hx : x = r
        · subst hx
          simp [dLook, hp]
        · have hn : ¬ isK (.inl x) p.1 = true := fun z => by
            rw [isK_int.mp z] at ep
            exact hx (by injection ep)
          rw [if_neg hx]
          unfold dLook
          rw [if_neg hn, if_neg hn]
          by_cases h2 : dHas q (.inl r) = true
          · rw [ih h2, if_neg hx]
          · have : q.map (fun p => if isK (.inl r) p.1 = true then (p.1, d) else p) = q := by
              conv => rhs; rw [← List.map_id q]
              refine List.map_congr_left fun y hy => ?_
              rw [if_neg]
              · rfl
              · intro z
                exact h2 (List.any_eq_true.mpr ⟨y, hy, z⟩)
            rw [this]
      · rw [if_neg hp]
        have h2 : dHas q (.inl r) = true := by
          unfold dHas at hh ⊢
          rw [List.any_cons, Bool.or_eq_true] at hh
          rcases hh with z | z
          · exact absurd z hp
          · exact z
        unfold dLook
        rw [ih h2]
        by_cases hx : isK (.inl x) p.1 = true
        · rw [if_pos hx, if_pos hx]
          have : ¬ x = r := fun z => by subst z; exact hp hx
          rw [if_neg this]
        · rw [if_neg hx, if_neg hx]
  · rw [if_neg hh]
    have nn : ∀ y ∈ kvs, ¬ isK (.inl r) y.1 = true := fun y hy z => hh (List.any_eq_true.mpr ⟨y, hy, z⟩)
    clear hh
    induction kvs with
    | nil =>
      rw [List.nil_append]
      unfold dLook
      by_cases hx : x = r
      · subst hx
        simp [isK_kD, isK, kD]
      · have : ¬ r = x := fun z => hx z.symm
        simp [isK, kD, hx, this, dLook]
    | cons p q ih =>
      rw [List.cons_append]
      unfold dLook
      rw [ih fun y hy => nn y (List.mem_cons_of_mem _ hy)]
      by_cases hx : isK (.inl x) p.1 = true
      · rw [if_pos hx, if_pos hx]
        have : ¬ x = r := fun z => by subst z; exact nn p List.mem_cons_self hx
        rw [if_neg this]
      · rw [if_neg hx, if_neg hx]
theorem len_put (kvs : List (PyData × PyData)) (k : Key) (d : PyData) : (dPut kvs k d).length ≤ kvs.length + 1 := by
  unfold dPut
  split
  · rw [List.length_map]; omega
  · simp
noncomputable def putA (n : Nat) (kvs : List (PyData × PyData)) (part : List Int) : List (PyData × PyData) := part.foldl (fun kvs r => dPut kvs (.inl r) (.int (n : Int))) kvs
theorem look_putA (n : Nat) (x : Int) : ∀ (part : List Int) (kvs : List (PyData × PyData)), dLook (putA n kvs part) (.inl x) = if x ∈ part then some (.int (n : Int)) else dLook kvs (.inl x)
  | [], kvs => by simp [putA]
  | r :: part, kvs => by
    have ih := look_putA n x part (dPut kvs (.inl r) (.int (n : Int)))
    have e : putA n kvs (r :: part) = putA n (dPut kvs (.inl r) (.int (n : Int))) part := rfl
    rw [e, ih, look_put]
    by_cases h1 : x ∈ part
    · simp [h1]
    · by_cases h2 : x = r
      · simp [h2]
      · simp [h1, h2]
theorem len_putA (n : Nat) : ∀ (part : List Int) (kvs : List (PyData × PyData)), (putA n kvs part).length ≤ kvs.length + part.length
  | [], kvs => by simp [putA]
  | r :: part, kvs => by
    have ih := len_putA n part (dPut kvs (.inl r) (.int (n : Int)))
    have e : putA n kvs (r :: part) = putA n (dPut kvs (.inl r) (.int (n : Int))) part := rfl
    have := len_put kvs (.inl r) (.int (n : Int))
    rw [e, List.length_cons]
    omega
noncomputable def putAll (F : List (List Int)) (kvs : List (PyData × PyData)) (q : List Int × Nat) : List (PyData × PyData) := putA (plc F (q.2 : Int)) kvs q.1
theorem look_skip (F : List (List Int)) (x : Int) : ∀ (L : List (List Int × Nat)) (kvs : List (PyData × PyData)), (∀ q ∈ L, x ∉ q.1) → dLook (L.foldl (putAll F) kvs) (.inl x) = dLook kvs (.inl x)
  | [], _, _ => rfl
  | q :: L, kvs, h => by
    rw [List.foldl_cons, look_skip F x L _ fun y hy => h y (List.mem_cons_of_mem _ hy)]
    unfold putAll
    rw [look_putA, if_neg (h q List.mem_cons_self)]
theorem look_all (F : List (List Int)) (x : Int) : ∀ (L : List (List Int × Nat)) (kvs : List (PyData × PyData)), L.Pairwise (fun a b => ∀ y ∈ a.1, y ∉ b.1) → ∀ q ∈ L, x ∈ q.1 → dLook (L.foldl (putAll F) kvs) (.inl x) = some (.int ((plc F (q.2 : Int) : Nat) : Int))
  | q :: L, kvs, pw, p, hp, hx => by
    rw [List.foldl_cons]
    obtain ⟨p1, p2⟩ := List.pairwise_cons.mp pw
    rcases List.mem_cons.mp hp with rfl | hp
    · rw [look_skip F x L _ fun y hy => p1 y hy x hx]
      unfold putAll
      rw [look_putA, if_pos hx]
    · exact look_all F x L _ p2 p hp hx
/-! group_of, grouped -/
def clsI (w : Nat) (ps : List Nat) : List (List Int) := (kinds ps w).map (clsAt ps)
theorem clsD_I (w : Nat) (ps : List Nat) : clsD w ps = grD (clsI w ps) := by
  unfold clsD grD clsI
  rw [List.map_map]
  rfl
theorem enum_gr (F : List (List Int)) : enum1 [grD F] = .ok (F.zipIdx.map fun q => .tuple [.int ((q.2 : Nat) : Int), wsD q.1]) := enum1_map wsD F
theorem len_gr (F : List (List Int)) : gLen [grD F] = .ok (.int (F.length : Int)) := gLen_map _ _
theorem it_gr (F : List (List Int)) : itemsOf (grD F) = .ok (F.map wsD) := rfl
section
variable (T Fd : PyData)
theorem go_0 (at' n : Nat) (part g : List Int) (kvs : List (PyData × PyData)) (x7 : Sl) (hk : kvs.length + part.length ≤ 900000) : ∃ y7, forF (gN 7) lp_group_of_0 (part.map PyData.int) [.pu T, .pu Fd, .ow (.dict kvs), .pu (.int (at' : Int)), .pu (wsD part), .pu (.int (n : Int)), .pu (wsD g), x7] = .nx [.pu T, .pu Fd, .ow (.dict (putA n kvs part)), .pu (.int (at' : Int)), .pu (wsD part), .pu (.int (n : Int)), .pu (wsD g), y7] := by
  obtain ⟨e, h1, ⟨y7, hx⟩, _⟩ := forF_idx (tg := gN 7) (body := lp_group_of_0) PyData.int (fun kvs r => dPut kvs (.inl r) (.int (n : Int))) (fun i kv env => (∃ x7, env = [.pu T, .pu Fd, .ow (.dict kv), .pu (.int (at' : Int)), .pu (wsD part), .pu (.int (n : Int)), .pu (wsD g), x7]) ∧ kv.length ≤ kvs.length + i) part 0 kvs [.pu T, .pu Fd, .ow (.dict kvs), .pu (.int (at' : Int)), .pu (wsD part), .pu (.int (n : Int)), .pu (wsD g), x7] ⟨⟨_, rfl⟩, Nat.le_refl _⟩ (fun i kv env ⟨⟨x7, he⟩, hl⟩ _ hi r _ => by
    subst he
    have lp := len_put kv (.inl r) (.int (n : Int))
    have z : kv.length < szl := szl_big (by omega)
    refine ⟨_, [.pu T, .pu Fd, .ow (.dict (dPut kv (.inl r) (.int (n : Int)))), .pu (.int (at' : Int)), .pu (wsD part), .pu (.int (n : Int)), .pu (wsD g), .pu (.int r)], rfl, ?_, ⟨_, rfl⟩, by omega⟩
    unfold lp_group_of_0
    simp [sDSet, evM, eVar, PL.keyOf, z])
  subst hx
  exact ⟨y7, h1⟩
theorem go_1 (at' n : Nat) (part g : List Int) (kvs : List (PyData × PyData)) (x7 : Sl) (hk : kvs.length + part.length ≤ 900000) : ∃ y7, lp_group_of_1 [.pu T, .pu Fd, .ow (.dict kvs), .pu (.int (at' : Int)), .pu (wsD part), .pu (.int (n : Int)), .pu (wsD g), x7] = .nx [.pu T, .pu Fd, .ow (.dict (if decide ((at' : Int) ∈ g) = true then putA n kvs part else kvs)), .pu (.int (at' : Int)), .pu (wsD part), .pu (.int (n : Int)), .pu (wsD g), y7] := by
  have dn := in_ws (at' : Int) g
  unfold lp_group_of_1
  by_cases q : (at' : Int) ∈ g
  · rw [decide_eq_true q] at dn ⊢
    obtain ⟨y7, h0⟩ := go_0 T Fd at' n part g kvs x7 hk
    refine ⟨y7, ?_⟩
    simp [runB, entry, sSeq, sAsg, sAsgT, sRet, sRetN, sIf, sNil, sOwn, sFor, sFrz, sExpr, sApp, sExt, sPar, sRaise, evM, evML, eBin, eVar, eC, eUn, eCall, eLst, eTup, eAnd, eOr, eNot, eIf, eSl, eOpt, eChain, aAll, bVal, bNot, bAnd, bOr, bC, bYes, iSeq, iCall, gN, gT, gL, setAll, eLc_N, eLc_T, frz, dn, it_ws, h0]
  · rw [decide_eq_false q] at dn ⊢
    exact ⟨x7, by simp [runB, entry, sSeq, sAsg, sAsgT, sRet, sRetN, sIf, sNil, sOwn, sFor, sFrz, sExpr, sApp, sExt, sPar, sRaise, evM, evML, eBin, eVar, eC, eUn, eCall, eLst, eTup, eAnd, eOr, eNot, eIf, eSl, eOpt, eChain, aAll, bVal, bNot, bAnd, bOr, bC, bYes, iSeq, iCall, gN, gT, gL, setAll, eLc_N, eLc_T, frz, dn]⟩
theorem go_2 (F : List (List Int)) (m : Nat) (hF : Parts F m) (hFl : F.length ≤ 20) (at' : Nat) (hat : at' < m) (part : List Int) (hp : part.length ≤ 100) (kvs : List (PyData × PyData)) (x5 x6 x7 : Sl) (hk : kvs.length ≤ 10000) :
    ∃ y5 y6 y7, lp_group_of_2 [.pu T, .pu (grD F), .ow (.dict kvs), .pu (.int (at' : Int)), .pu (wsD part), x5, x6, x7] = .nx [.pu T, .pu (grD F), .ow (.dict (putAll F kvs (part, at'))), .pu (.int (at' : Int)), .pu (wsD part), y5, y6, y7] := by
  obtain ⟨e, h1, ⟨y5, y6, y7, hx⟩, _⟩ := forF_idx (tg := gT [5, 6]) (body := lp_group_of_1) (fun q : List Int × Nat => .tuple [.int ((q.2 : Nat) : Int), wsD q.1]) (fun kvs q => if decide ((at' : Int) ∈ q.1) = true then putA q.2 kvs part else kvs) (fun i kv env => (∃ x5 x6 x7, env = [.pu T, .pu (grD F), .ow (.dict kv), .pu (.int (at' : Int)), .pu (wsD part), x5, x6, x7]) ∧ kv.length ≤ kvs.length + 100 * i) F.zipIdx 0 kvs [.pu T, .pu (grD F), .ow (.dict kvs), .pu (.int (at' : Int)), .pu (wsD part), x5, x6, x7] ⟨⟨_, _, _, rfl⟩, by omega⟩ (fun i kv env ⟨⟨x5, x6, x7, he⟩, hl⟩ _ hi q _ => by
    subst he
    rw [List.length_zipIdx] at hi
    obtain ⟨z7, hb⟩ := go_1 T (grD F) at' q.2 part q.1 kv x7 (by omega)
    refine ⟨_, _, rfl, hb, ⟨_, _, _, rfl⟩, ?_⟩
    have := len_putA q.2 part kv
    split <;> omega)
  rw [← List.foldl_filter (p := fun q : List Int × Nat => decide ((at' : Int) ∈ q.1)) (f := fun kvs (q : List Int × Nat) => putA q.2 kvs part)] at hx
  obtain ⟨g, hg⟩ := hF.flt (a := (at' : Int)) (by omega) (by omega)
  rw [hg] at hx
  subst hx
  refine ⟨y5, y6, y7, ?_⟩
  unfold lp_group_of_2
  simp [runB, entry, sSeq, sAsg, sAsgT, sRet, sRetN, sIf, sNil, sOwn, sFor, sFrz, sExpr, sApp, sExt, sPar, sRaise, evM, evML, eBin, eVar, eC, eUn, eCall, eLst, eTup, eAnd, eOr, eNot, eIf, eSl, eOpt, eChain, aAll, bVal, bNot, bAnd, bOr, bC, bYes, iSeq, iCall, gN, gT, gL, setAll, eLc_N, eLc_T, frz, enum_gr, h1]
  rfl
end
def cidx (w : Nat) (ps : List Nat) (r : Nat) : Nat := (kinds ps w).idxOf (gN0 ps r)
def numI (F : List (List Int)) (w : Nat) (ps : List Nat) (r : Nat) : Nat := plc F ((cidx w ps r : Nat) : Int)
def nums (F : List (List Int)) (w : Nat) (ps : List Nat) : List Int := (List.range ps.length).map fun r => ((numI F w ps r : Nat) : Int)
theorem kinds_nodup (w : Nat) (ps : List Nat) : (kinds ps w).Nodup := List.Pairwise.filter _ List.nodup_range
theorem cls_disj {ps : List Nat} {k l : Nat} {x : Int} (h1 : x ∈ clsAt ps k) (h2 : x ∈ clsAt ps l) : k = l := by
  obtain ⟨i, hi, rfl⟩ := clsAt_mem.mp h1
  obtain ⟨i', hi', e⟩ := clsAt_mem.mp h2
  have : i = i' := by omega
  subst this
  rw [hi] at hi'
  exact Option.some.inj hi'
theorem cidx_at {w : Nat} {ps : List Nat} {at' k : Nat} (hk : (kinds ps w)[at']? = some k) {r : Nat} (hr : (r : Int) ∈ clsAt ps k) : cidx w ps r = at' := by
  obtain ⟨i, hi, e⟩ := clsAt_mem.mp hr
  have : i = r := by omega
  subst this
  obtain ⟨hl, hk⟩ := List.getElem?_eq_some_iff.mp hk
  have hg : gN0 ps i = k := by simp [gN0, List.getD, hi]
  unfold cidx
  rw [hg, ← hk]
  exact (kinds_nodup w ps).idxOf_getElem at' hl
theorem PlOk.cls_of {w : Nat} {ss : List PyData} {ps : List Nat} (h : PlOk w ss ps) {r : Nat} (hr : r < ps.length) : (kinds ps w)[cidx w ps r]? = some (gN0 ps r) ∧ (r : Int) ∈ clsAt ps (gN0 ps r) := by
  have hi : ps[r]? = some (gN0 ps r) := by simp [gN0, List.getD, hr]
  have hm : gN0 ps r ∈ ps := List.mem_iff_getElem?.mpr ⟨r, hi⟩
  have hk : gN0 ps r ∈ kinds ps w := List.mem_filter.mpr ⟨List.mem_range.mpr (h.p _ hm), by simpa using hm⟩
  have hl := List.idxOf_lt_length_of_mem hk
  refine ⟨?_, clsAt_mem.mpr ⟨r, hi, rfl⟩⟩
  rw [List.getElem?_eq_some_iff]
  exact ⟨hl, List.getElem_idxOf hl⟩
theorem group_of_ok {w : Nat} {ss : List PyData} {ps : List Nat} (h : PlOk w ss ps) (F : List (List Int)) (hF : Parts F (kinds ps w).length) (hFl : F.length ≤ 20) : g_group_of [tabD ss (plR w ps), grD F] = .ok (wsD (nums F w ps)) := by
  have hc := h.classes
  rw [clsD_I] at hc
  have n9 := h.n9
  have w9 := h.w9
  have kl := kinds_len (w := w) (ps := ps)
  have cl : (clsI w ps).length = (kinds ps w).length := by simp [clsI]
  obtain ⟨e, h1, ⟨y3, y4, y5, y6, y7, hx⟩, _⟩ := forF_idx (tg := gT [3, 4]) (body := lp_group_of_2) (fun q : List Int × Nat => .tuple [.int ((q.2 : Nat) : Int), wsD q.1]) (putAll F) (fun i kv env => (∃ x3 x4 x5 x6 x7, env = [.pu (tabD ss (plR w ps)), .pu (grD F), .ow (.dict kv), x3, x4, x5, x6, x7]) ∧ kv.length ≤ 100 * i) (clsI w ps).zipIdx 0 [] [.pu (tabD ss (plR w ps)), .pu (grD F), .ow (.dict []), .no, .no, .no, .no, .no] ⟨⟨_, _, _, _, _, rfl⟩, by simp⟩ (fun i kv env ⟨⟨x3, x4, x5, x6, x7, he⟩, hl⟩ _ hi q hq => by
    subst he
    rw [List.length_zipIdx, cl] at hi
    have hq' := List.mem_zipIdx_iff_getElem?.mp hq
    have hql : q.2 < (kinds ps w).length := by
      rw [← cl]
      exact (List.getElem?_eq_some_iff.mp hq').1
    have hpl : q.1.length ≤ 100 := by
      have hm : q.1 ∈ clsI w ps := List.mem_iff_getElem?.mpr ⟨_, hq'⟩
      unfold clsI at hm
      obtain ⟨k, _, e⟩ := List.mem_map.mp hm
      rw [← e]
      have := clsAt_len (ps := ps) (k := k)
      omega
    obtain ⟨z5, z6, z7, hb⟩ := go_2 (tabD ss (plR w ps)) F _ hF hFl q.2 hql q.1 hpl kv x5 x6 x7 (by omega)
    refine ⟨_, _, rfl, hb, ⟨_, _, _, _, _, rfl⟩, ?_⟩
    have := len_putA (plc F (q.2 : Int)) q.1 kv
    unfold putAll
    omega)
  have pw : (clsI w ps).zipIdx.Pairwise (fun a b => ∀ y ∈ a.1, y ∉ b.1) := by
    rw [List.pairwise_iff_getElem]
    intro i j hi hj hij y hy1 hy2
    rw [List.length_zipIdx, cl] at hi hj
    simp only [List.getElem_zipIdx, clsI, List.getElem_map] at hy1 hy2
    have := cls_disj hy1 hy2
    have nd := List.pairwise_iff_getElem.mp (kinds_nodup w ps) i j hi hj hij
    exact nd this
  have lk : ∀ r : Nat, r < ps.length → dLook ((clsI w ps).zipIdx.foldl (putAll F) []) (.inl (r : Int)) = some (.int ((numI F w ps r : Nat) : Int)) := fun r hr => by
    obtain ⟨c1, c2⟩ := h.cls_of hr
    refine look_all F (r : Int) _ [] pw (clsAt ps (gN0 ps r), cidx w ps r) (List.mem_zipIdx_iff_getElem?.mpr ?_) c2
    simp only [clsI, List.getElem?_map, c1]
    rfl
  generalize (clsI w ps).zipIdx.foldl (putAll F) [] = kvs at *
  subst hx
  have gl := h.len1
  have rg := rng1_map ps.length (by omega)
  have eg := enum_gr (clsI w ps)
  rw [g_group_of_eq]
  unfold fb_group_of
  simp [runB, entry, sSeq, sAsg, sAsgT, sRet, sRetN, sIf, sNil, sOwn, sFor, sFrz, sExpr, sApp, sExt, sPar, sRaise, evM, evML, eBin, eVar, eC, eUn, eCall, eLst, eTup, eAnd, eOr, eNot, eIf, eSl, eOpt, eChain, aAll, bVal, bNot, bAnd, bOr, bC, bYes, iSeq, iCall, gN, gT, gL, setAll, eLc_N, eLc_T, frz, hc, eg, h1, tab_1, gl, rg]
  rw [mapL_ok (enc := fun i : Nat => PyData.int (i : Int)) (g := fun r : Nat => .int ((numI F w ps r : Nat) : Int)) (fun r hr => by
    have := lk r (List.mem_range.mp hr)
    simp [dDIx, PL.keyOf, this]) (by simp; omega)]
  unfold wsD nums
  rw [List.map_map]
  rfl
theorem grouped_ok {w : Nat} {ss : List PyData} {ps : List Nat} (h : PlOk w ss ps) (F : List (List Int)) (hF : Parts F (kinds ps w).length) (hFl : F.length ≤ 20) : g_grouped [tabD ss (plR w ps), grD F] = .ok (.tuple [.list ((List.range F.length).map fun i : Nat => .tuple [.int (i : Int)]), rowsD ((List.range ps.length).map fun r => unitR F.length (numI F w ps r))]) := by
  have go := group_of_ok h F hF hFl
  have n9 := h.n9
  have rg := rng1_map F.length (by omega)
  have gl := len_gr F
  have np := h.need
  have it : itemsOf (wsD (nums F w ps)) = .ok ((List.range ps.length).map fun r => .int ((numI F w ps r : Nat) : Int)) := by
    rw [it_ws]
    unfold nums
    rw [List.map_map]
    rfl
  have m1 : mapL (fun d => R.ok (PyData.tuple [d])) ((List.range F.length).map fun i : Nat => .int (i : Int)) = .ok (.list ((List.range F.length).map fun i : Nat => .tuple [.int (i : Int)])) := mapL_ok (enc := fun i : Nat => PyData.int (i : Int)) (g := fun i : Nat => .tuple [.int (i : Int)]) (fun _ _ => rfl) (by simp; omega)
  rw [g_grouped_eq]
  unfold fb_grouped
  simp [runB, entry, sSeq, sAsg, sAsgT, sRet, sRetN, sIf, sNil, sOwn, sFor, sFrz, sExpr, sApp, sExt, sPar, sRaise, evM, evML, eBin, eVar, eC, eUn, eCall, eLst, eTup, eAnd, eOr, eNot, eIf, eSl, eOpt, eChain, aAll, bVal, bNot, bAnd, bOr, bC, bYes, iSeq, iCall, gN, gT, gL, setAll, eLc_N, eLc_T, frz, np, go, it, gl, rg]
  rw [mapL_ok (enc := fun r : Nat => PyData.int ((numI F w ps r : Nat) : Int)) (g := fun r => frL (unitR F.length (numI F w ps r))) (fun r _ => by
    rw [mapL_ok (enc := fun i : Nat => PyData.int (i : Int)) (g := fun i : Nat => frD (if numI F w ps r = i then 1 else 0)) (fun i _ => by
      generalize numI F w ps r = n
      by_cases e : i = n
      · subst e
        simp [one_fr, eC]
      · have e2 : ¬ ((i : Int) = (n : Int)) := by omega
        have e3 : ¬ n = i := fun z => e z.symm
        simp [e2, e3, nought_fr, eC]) (by simp; omega)]
    unfold frL unitR
    rw [List.map_map]
    rfl) (by simp; omega)]
  simp [runB, entry, sSeq, sAsg, sAsgT, sRet, sRetN, sIf, sNil, sOwn, sFor, sFrz, sExpr, sApp, sExt, sPar, sRaise, evM, evML, eBin, eVar, eC, eUn, eCall, eLst, eTup, eAnd, eOr, eNot, eIf, eSl, eOpt, eChain, aAll, bVal, bNot, bAnd, bOr, bC, bYes, iSeq, iCall, gN, gT, gL, setAll, eLc_N, eLc_T, frz, rg, gl, m1]
  rw [rowsD_eq, List.map_map]
  rfl
/-! whether the groups told are right -/
theorem ltold_ok {a b c d : PyData} (h : g_groups [a, b, c] = .ok d) : g__law_told [a, b, c] = .ok d := by
  rw [g__law_told_eq]
  unfold fb__law_told
  simp [runB, entry, sSeq, sAsg, sAsgT, sRet, sRetN, sIf, sNil, sOwn, sFor, sFrz, sExpr, sApp, sExt, sPar, sRaise, evM, evML, eBin, eVar, eC, eUn, eCall, eLst, eTup, eAnd, eOr, eNot, eIf, eSl, eOpt, eChain, aAll, bVal, bNot, bAnd, bOr, bC, bYes, iSeq, iCall, gN, gT, gL, setAll, eLc_N, eLc_T, frz, sTry, h]
theorem ltold_ex {a b c : PyData} {k : Nat} {z : Str} (h : g_groups [a, b, c] = .ex k) (hz : wdL k = some z) : g__law_told [a, b, c] = .ok (.str z) := by
  rw [g__law_told_eq]
  unfold fb__law_told
  simp [runB, entry, sSeq, sAsg, sAsgT, sRet, sRetN, sIf, sNil, sOwn, sFor, sFrz, sExpr, sApp, sExt, sPar, sRaise, evM, evML, eBin, eVar, eC, eUn, eCall, eLst, eTup, eAnd, eOr, eNot, eIf, eSl, eOpt, eChain, aAll, bVal, bNot, bAnd, bOr, bC, bYes, iSeq, iCall, gN, gT, gL, setAll, eLc_N, eLc_T, frz, sTry, h, hz]
theorem shp_ws (xs : List Int) : SeqAt.shaped (wsD xs) = true := shaped_ints xs
theorem shp_gr (F : List (List Int)) : SeqAt.shaped (grD F) = true := shaped_of (n := 3) (shp_list (shpA_of fun d hd => by
  obtain ⟨g, _, rfl⟩ := List.mem_map.mp hd
  exact shp_list (shpA_of fun d hd => by
    obtain ⟨i, _, rfl⟩ := List.mem_map.mp hd
    exact shp_int 1 i))) (by decide)
theorem dEq_self {d : PyData} (h : SeqAt.shaped d = true) : dEq d d = .ok (.bool true) := by rw [dEq_shp h h, eqv_refl d (canLay_sh h)]
theorem members_ok (x : Nat → Sl) (F : List (List Int)) (hF : F.flatten.length ≤ 1000) : ∃ y8, forF (gN 8) lp__law_right_0 (F.map wsD) [x 0, x 1, x 2, x 3, x 4, x 5, x 6, .ow (.list []), x 8, x 9, x 10, x 11, x 12, x 13, x 14, x 15, x 16] = .nx [x 0, x 1, x 2, x 3, x 4, x 5, x 6, .ow (wsD F.flatten), y8, x 9, x 10, x 11, x 12, x 13, x 14, x 15, x 16] := by
  have key : ∀ (F : List (List Int)) (acc : List Int) (y : Sl), acc.length + F.flatten.length ≤ 1000 → ∃ y8, forF (gN 8) lp__law_right_0 (F.map wsD) [x 0, x 1, x 2, x 3, x 4, x 5, x 6, .ow (wsD acc), y, x 9, x 10, x 11, x 12, x 13, x 14, x 15, x 16] = .nx [x 0, x 1, x 2, x 3, x 4, x 5, x 6, .ow (wsD (acc ++ F.flatten)), y8, x 9, x 10, x 11, x 12, x 13, x 14, x 15, x 16] := by
    intro F
    induction F with
    | nil => intro acc y _; exact ⟨y, by simp [forF]⟩
    | cons g F ih =>
      intro acc y hl
      rw [List.flatten_cons, List.length_append] at hl
      obtain ⟨y8, h8⟩ := ih (acc ++ g) (.pu (wsD g)) (by rw [List.length_append]; omega)
      refine ⟨y8, ?_⟩
      have ad : dAddL (wsD acc) (wsD g) = .ok (wsD (acc ++ g)) := by
        unfold dAddL wsD
        dsimp only
        rw [if_pos (by rw [List.length_map, List.length_map]; exact szl_big (by omega)), List.map_append]
      have gl : gList [wsD g] = .ok (wsD g) := rfl
      rw [List.map_cons, forF]
      have t : gN 8 (wsD g) [x 0, x 1, x 2, x 3, x 4, x 5, x 6, .ow (wsD acc), y, x 9, x 10, x 11, x 12, x 13, x 14, x 15, x 16] = some [x 0, x 1, x 2, x 3, x 4, x 5, x 6, .ow (wsD acc), .pu (wsD g), x 9, x 10, x 11, x 12, x 13, x 14, x 15, x 16] := rfl
      rw [t]
      dsimp only
      have b : lp__law_right_0 [x 0, x 1, x 2, x 3, x 4, x 5, x 6, .ow (wsD acc), .pu (wsD g), x 9, x 10, x 11, x 12, x 13, x 14, x 15, x 16] = .nx [x 0, x 1, x 2, x 3, x 4, x 5, x 6, .ow (wsD (acc ++ g)), .pu (wsD g), x 9, x 10, x 11, x 12, x 13, x 14, x 15, x 16] := by
        unfold lp__law_right_0
        simp [runB, entry, sSeq, sAsg, sAsgT, sRet, sRetN, sIf, sNil, sOwn, sFor, sFrz, sExpr, sApp, sExt, sPar, sRaise, evM, evML, eBin, eVar, eC, eUn, eCall, eLst, eTup, eAnd, eOr, eNot, eIf, eSl, eOpt, eChain, aAll, bVal, bNot, bAnd, bOr, bC, bYes, iSeq, iCall, gN, gT, gL, setAll, eLc_N, eLc_T, frz, gl, ad]
      rw [b, Out.loop_nx, h8, List.flatten_cons, List.append_assoc]
  have := key F [] (x 8) (by simpa using hF)
  rw [List.nil_append] at this
  exact this
theorem told_sum (hs : List Int) (F : List (List Int)) (h : ∀ g ∈ F, g ≠ []) (hm : ∀ g ∈ F, ∀ a ∈ g, 0 ≤ a ∧ a < hs.length) (hl : F.length ≤ 1000) (hg : ∀ g ∈ F, g.length ≤ 1000) : mapL (fun part => (itemsOf part).bind fun ds => (mapL (fun d => dIx (wsD hs) d) ds).bind fun x => gMaxL [x]) (F.map wsD) = .ok (wsD (F.map fun g => maxL (g.map (gH hs)))) := by
  rw [mapL_ok (enc := wsD) (g := fun g => .int (maxL (g.map (gH hs)))) (fun g hg' => by
    rw [it_ws, R.bind_ok, mapL_ok (enc := PyData.int) (g := fun a : Int => .int (gH hs a)) (fun a ha => dIx_gH hs a (hm g hg' a ha).1 (hm g hg' a ha).2) (by have := hg g hg'; omega), R.bind_ok]
    have e : PyData.list (g.map fun a : Int => PyData.int (gH hs a)) = wsD (g.map (gH hs)) := by
      unfold wsD
      rw [List.map_map]
      rfl
    rw [e, gMaxL_ints]
    intro z
    exact h g hg' (by simpa using z)) (by omega)]
  unfold wsD
  rw [List.map_map]
  rfl
section
variable {w mm : Nat} {ss : List PyData} {ps : List Nat} {ws : List Int}
def grR (F : List (List Int)) (w : Nat) (ps : List Nat) : List (List Rat) := (List.range ps.length).map fun r => unitR F.length (numI F w ps r)
theorem dIx_grR (F : List (List Int)) (w : Nat) (ps : List Nat) (r : Nat) (h : r < ps.length) : dIx (rowsD (grR F w ps)) (.int (r : Int)) = .ok (frL (unitR F.length (numI F w ps r))) := by
  rw [rowsD_eq, dIx_mapD frL (grR F w ps) r [] (by simpa [grR] using h)]
  congr 2
  simp [grR, List.getD, h]
theorem unit_lc (F : List (List Int)) (p : Nat) (hFl : F.length ≤ 20) : mapL (fun d => ((dEq d (.int (p : Int))).bind fun x => gInt [x]).bind fun a => .ok (.tuple [a, .int 1])) ((List.range F.length).map fun i : Nat => .int (i : Int)) = .ok (frL (unitR F.length p)) := by
  rw [mapL_ok (enc := fun i : Nat => PyData.int (i : Int)) (g := fun i : Nat => frD (if p = i then 1 else 0)) (fun i _ => by
    by_cases e : p = i
    · subst e
      simp [gInt, fr_one]
    · have e2 : ¬ ((i : Int) = (p : Int)) := by omega
      simp [gInt, e, e2, fr_zero]) (by simp; omega)]
  unfold frL unitR
  rw [List.map_map]
  rfl
theorem right_1 (x : Nat → Sl) (F : List (List Int)) (hFl : F.length ≤ 20) (r : Nat) (hr : r < ps.length) (A : PyData) (h6 : x 6 = .pu (grD F)) (h10 : x 10 = .pu (.tuple [A, rowsD (grR F w ps)])) (h13 : x 13 = .pu (.int ((numI F w ps r : Nat) : Int))) :
    lp__law_right_1 [x 0, x 1, x 2, x 3, x 4, x 5, x 6, x 7, x 8, x 9, x 10, x 11, x 12, x 13, .pu (.int (r : Int)), .no, .no] = .nx [x 0, x 1, x 2, x 3, x 4, x 5, x 6, x 7, x 8, x 9, x 10, x 11, x 12, x 13, .pu (.int (r : Int)), .no, .no] := by
  rw [h6, h10, h13]
  have d1 := dIx_grR F w ps r hr
  have lc := unit_lc F (numI F w ps r) hFl
  have ne : dNe (frL (unitR F.length (numI F w ps r))) (frL (unitR F.length (numI F w ps r))) = .ok (.bool false) := by
    rw [dNe_frLs]
    simp
  have rg := rng1_map F.length (by omega)
  have gl := len_gr F
  generalize numI F w ps r = p at *
  unfold lp__law_right_1
  simp [runB, entry, sSeq, sAsg, sAsgT, sRet, sRetN, sIf, sNil, sOwn, sFor, sFrz, sExpr, sApp, sExt, sPar, sRaise, evM, evML, eBin, eVar, eC, eUn, eCall, eLst, eTup, eAnd, eOr, eNot, eIf, eSl, eOpt, eChain, aAll, bVal, bNot, bAnd, bOr, bC, bYes, iSeq, iCall, gN, gT, gL, setAll, eLc_N, eLc_T, frz, d1, rg, gl]
  have : ∀ f : PyData → R PyData, (∀ d, f d = ((dEq d (.int (p : Int))).bind fun x => gInt [x]).bind fun a => .ok (.tuple [a, .int 1])) → mapL f ((List.range F.length).map fun i : Nat => .int (i : Int)) = .ok (frL (unitR F.length p)) := fun f hf => by
    rw [funext hf]
    exact lc
  rw [this _ fun d => by
    cases dEq d (.int (p : Int)) with
    | ok a =>
      simp
      cases gInt [a] <;> rfl
    | ex c => rfl
    | no => rfl]
  simp [ne, sNil]
theorem right_2 (x : Nat → Sl) (h : PlOk w ss ps) (F : List (List Int)) (hF : Parts F (kinds ps w).length) (hFl : F.length ≤ 20) (at' k : Nat) (hk : (kinds ps w)[at']? = some k) (A : PyData) (h6 : x 6 = .pu (grD F)) (h10 : x 10 = .pu (.tuple [A, rowsD (grR F w ps)])) :
    ∃ y13 y14, lp__law_right_2 [x 0, x 1, x 2, x 3, x 4, x 5, x 6, x 7, x 8, x 9, x 10, .pu (.int (at' : Int)), .pu (wsD (clsAt ps k)), x 13, x 14, .no, .no] = .nx [x 0, x 1, x 2, x 3, x 4, x 5, x 6, x 7, x 8, x 9, x 10, .pu (.int (at' : Int)), .pu (wsD (clsAt ps k)), y13, y14, .no, .no] := by
  have hal : at' < (kinds ps w).length := (List.getElem?_eq_some_iff.mp hk).1
  obtain ⟨g, hg⟩ := hF.flt (a := (at' : Int)) (by omega) (by omega)
  have en := enum_gr F
  obtain ⟨e, h1, ⟨y14, hx⟩⟩ := forF_fold (tg := gN 14) (body := lp__law_right_1) PyData.int (fun (u : Unit) (_ : Int) => u) (fun _ env => ∃ x14, env = [x 0, x 1, x 2, x 3, x 4, x 5, x 6, x 7, x 8, x 9, x 10, .pu (.int (at' : Int)), .pu (wsD (clsAt ps k)), .pu (.int ((plc F (at' : Int) : Nat) : Int)), x14, .no, .no]) (clsAt ps k) () [x 0, x 1, x 2, x 3, x 4, x 5, x 6, x 7, x 8, x 9, x 10, .pu (.int (at' : Int)), .pu (wsD (clsAt ps k)), .pu (.int ((plc F (at' : Int) : Nat) : Int)), x 14, .no, .no] ⟨_, rfl⟩ (fun _ env ⟨x14, he⟩ j hj => by
    subst he
    obtain ⟨j0, j1⟩ := clsAt_rng hj
    have ej : ((j.toNat : Nat) : Int) = j := by omega
    have hj' : ((j.toNat : Nat) : Int) ∈ clsAt ps k := by rw [ej]; exact hj
    have ci := cidx_at hk hj'
    have hn : numI F w ps j.toNat = plc F (at' : Int) := by unfold numI; rw [ci]
    have r1 := right_1 (w := w) (ps := ps) (fun i => if i = 11 then .pu (.int (at' : Int)) else if i = 12 then .pu (wsD (clsAt ps k)) else if i = 13 then .pu (.int ((plc F (at' : Int) : Nat) : Int)) else x i) F hFl j.toNat (by omega) A (by simpa using h6) (by simpa using h10) (by simp [hn])
    simp at r1
    rw [show max j 0 = j by omega] at r1
    exact ⟨[x 0, x 1, x 2, x 3, x 4, x 5, x 6, x 7, x 8, x 9, x 10, .pu (.int (at' : Int)), .pu (wsD (clsAt ps k)), .pu (.int ((plc F (at' : Int) : Nat) : Int)), .pu (.int j), .no, .no], _, rfl, r1, _, rfl⟩)
  subst hx
  refine ⟨.pu (.int ((plc F (at' : Int) : Nat) : Int)), y14, ?_⟩
  unfold lp__law_right_2
  refine seq_nx (e := [x 0, x 1, x 2, x 3, x 4, x 5, x 6, x 7, x 8, x 9, x 10, .pu (.int (at' : Int)), .pu (wsD (clsAt ps k)), .pu (.int ((plc F (at' : Int) : Nat) : Int)), x 14, .no, .no]) ?_ ?_
  · rw [h6]
    simp [sAsg, evM, eBin, eLc_TF, iCall, aAll, eVar, eC, en]
    rw [fltL_ok (enc := fun q : List Int × Nat => PyData.tuple [.int ((q.2 : Nat) : Int), wsD q.1]) (p := fun q => decide ((at' : Int) ∈ q.1)) (g := fun q => .int ((q.2 : Nat) : Int)) (fun q _ => by
      have dn := in_ws (at' : Int) q.1
      simp [bVal, eBin, eVar, dn]) (fun q _ _ => by simp [eVar]) (by simp; omega), hg]
    simp
  · simp [runB, entry, sSeq, sAsg, sAsgT, sRet, sRetN, sIf, sNil, sOwn, sFor, sFrz, sExpr, sApp, sExt, sPar, sRaise, evM, evML, eBin, eVar, eC, eUn, eCall, eLst, eTup, eAnd, eOr, eNot, eIf, eSl, eOpt, eChain, aAll, bVal, bNot, bAnd, bOr, bC, bYes, iSeq, iCall, gN, gT, gL, setAll, eLc_N, eLc_T, frz, it_ws, h1]
theorem right_loop (x : Nat → Sl) (h : PlOk w ss ps) (F : List (List Int)) (hF : Parts F (kinds ps w).length) (hFl : F.length ≤ 20) (A : PyData) (h6 : x 6 = .pu (grD F)) (h10 : x 10 = .pu (.tuple [A, rowsD (grR F w ps)])) :
    ∃ y11 y12 y13 y14, forF (gT [11, 12]) lp__law_right_2 ((clsI w ps).zipIdx.map fun q => .tuple [.int ((q.2 : Nat) : Int), wsD q.1]) [x 0, x 1, x 2, x 3, x 4, x 5, x 6, x 7, x 8, x 9, x 10, .no, .no, .no, .no, .no, .no] = .nx [x 0, x 1, x 2, x 3, x 4, x 5, x 6, x 7, x 8, x 9, x 10, y11, y12, y13, y14, .no, .no] := by
  obtain ⟨e, h1, ⟨y11, y12, y13, y14, hx⟩⟩ := forF_fold (tg := gT [11, 12]) (body := lp__law_right_2) (fun q : List Int × Nat => .tuple [.int ((q.2 : Nat) : Int), wsD q.1]) (fun (u : Unit) _ => u) (fun _ env => ∃ y11 y12 y13 y14, env = [x 0, x 1, x 2, x 3, x 4, x 5, x 6, x 7, x 8, x 9, x 10, y11, y12, y13, y14, .no, .no]) (clsI w ps).zipIdx () [x 0, x 1, x 2, x 3, x 4, x 5, x 6, x 7, x 8, x 9, x 10, .no, .no, .no, .no, .no, .no] ⟨_, _, _, _, rfl⟩ (fun _ env ⟨y11, y12, y13, y14, he⟩ q hq => by
    subst he
    have hq' := List.mem_zipIdx_iff_getElem?.mp hq
    unfold clsI at hq'
    rw [List.getElem?_map] at hq'
    cases hk : (kinds ps w)[q.2]? with
    | none => rw [hk] at hq'; cases hq'
    | some k =>
      rw [hk] at hq'
      have e : clsAt ps k = q.1 := Option.some.inj hq'
      obtain ⟨z13, z14, hb⟩ := right_2 (fun i => if i = 13 then y13 else if i = 14 then y14 else x i) h F hF hFl q.2 k hk A (by simpa using h6) (by simpa using h10)
      simp at hb
      rw [e] at hb
      exact ⟨_, _, rfl, hb, _, _, _, _, rfl⟩)
  subst hx
  exact ⟨y11, y12, y13, y14, h1⟩
end
section
variable {w mm : Nat} {ss : List PyData} {ps : List Nat} {ws : List Int}
theorem hts_any (v : List Int) (xs : List PyData) (r : PyData) (ht : mapL (fun part => (itemsOf part).bind fun ds => (mapL (fun d => dIx (wsD v) d) ds).bind fun x => gMaxL [x]) xs = .ok r) (f : PyData → R PyData) (hf : ∀ d, f d = (itemsOf d).bind fun ds => (mapL (fun d => dIx (wsD v) d) ds).bind fun x => gMaxL [x]) : mapL f xs = .ok r := by
  rw [funext hf]
  exact ht
theorem shp_sg (n : Nat) : SeqAt.shaped (.list ((List.range n).map fun i : Nat => PyData.tuple [.int (i : Int)])) = true := shaped_of (n := 3) (shp_list (shpA_of fun d hd => by
  obtain ⟨i, _, rfl⟩ := List.mem_map.mp hd
  exact shp_tuple (shpA_cons (shp_int _ _) (shpA_nil _)))) (by decide)
theorem right_ok (h : PlOk w ss ps) (hw : WsOk mm ws) (hl : ws.length = ps.length) (b0 b1 : Int) (hb : BnOk b0 b1) : g__law_right [tabD ss (plR w ps), wsD ws, bndD b0 b1] = .ok (.bool true) := by
  have hc := h.lcl
  have ht := h.hts hl
  have h9 := hgs_9 h ws
  have hne := h.hne ws
  have it : itemsOf (clsD w ps) = .ok ((kinds ps w).map fun k => wsD (clsAt ps k)) := rfl
  have gs := groups_ok h hw hl b0 b1 hb
  have hkl := hgs_len w ps ws
  have gc : gLen [clsD w ps] = .ok (.int ((hgs w ps ws).length : Int)) := by
    rw [clsD_I, len_gr, hkl]
    simp [clsI]
  have sw := gSum_ws ws
  have most := most_ok (hgs w ps ws) hne h9 b0 b1 ws.sum hb
  generalize hgs w ps ws = hs at *
  have start : ∀ (d : PyData) (r : Out), g_groups [tabD ss (plR w ps), wsD ws, bndD b0 b1] = .ok d →
      (sSeq (sIf (bOr (bVal (eBin dEq (eVar 5) (eC (.int 0)))) (bVal (eBin dIs (eVar 6) (eC .none)))) (sRet (eAnd (eBin dIs (eVar 6) (eC .none)) (eBin dEq (eVar 5) (eC (.int 0))))) sNil) (sSeq (sOwn 7 (eLst [])) (sSeq (sFor (gN 8) (iSeq (eVar 6)) lp__law_right_0) (sSeq (sIf (bOr (bNot (bVal (eUn (dIsi "list") (eVar 6)))) (bOr (bVal (eBin dNe (eCall gLen [(eVar 6)]) (eVar 5))) (bVal (eBin dNe (eCall gSortD [(eVar 7)]) (eUn dLstRg (eCall gLen [(eVar 3)])))))) (sRet (eC (.bool false))) sNil) (sSeq (sIf (bOr (bVal (eBin dNe (eVar 6) (eCall gSortD [(eVar 6)]))) (bNot (bVal (eCall gAll [(eLc (cN 8) (iSeq (eVar 6)) bYes (eAnd (eBin dEq (eVar 8) (eCall gSortD [(eVar 8)])) (eBin dNe (eVar 8) (eLst []))))])))) (sRet (eC (.bool false))) sNil) (sSeq (sAsg .P 9 (eCall gSum [(eLc (cN 8) (iSeq (eVar 6)) bYes (eCall gMaxL [(eLc (cN 11) (iSeq (eVar 8)) bYes (eBin dIx (eVar 4) (eVar 11)))]))])) (sSeq (sIf (bVal (eBin dGt (eBin dMul (eVar 9) (eBin dIx (eVar 2) (eC (.int 1)))) (eBin dMul (eBin dIx (eVar 2) (eC (.int 0))) (eCall gSum [(eVar 1)])))) (sRet (eC (.bool false))) sNil) (sSeq (sAsg .P 10 (eCall g_grouped [(eVar 0), (eVar 6)])) (sSeq (sIf (bVal (eBin dNe (eBin dIx (eVar 10) (eC (.int 0))) (eLc (cN 11) (iCall rng1 [(eCall gLen [(eVar 6)])]) bYes (eTup [(eVar 11)])))) (sRet (eC (.bool false))) sNil) (sSeq (sFor (gT [11, 12]) (iCall enum1 [(eVar 3)]) lp__law_right_2) (sRet (eC (.bool true))))))))))))) [.pu (tabD ss (plR w ps)), .pu (wsD ws), .pu (bndD b0 b1), .pu (clsD w ps), .pu (wsD hs), .pu (.int ((dueN hs b0 b1 ws.sum : Nat) : Int)), .pu d, .no, .no, .no, .no, .no, .no, .no, .no, .no, .no] = r → g__law_right [tabD ss (plR w ps), wsD ws, bndD b0 b1] = r.res := by
    intro d r hd hr
    have td := ltold_ok hd
    rw [g__law_right_eq]
    unfold fb__law_right runB
    congr 1
    refine seq_nx (e := [.pu (tabD ss (plR w ps)), .pu (wsD ws), .pu (bndD b0 b1), .pu (clsD w ps), .no, .no, .no, .no, .no, .no, .no, .no, .no, .no, .no, .no, .no]) (by simp [runB, entry, sSeq, sAsg, sAsgT, sRet, sRetN, sIf, sNil, sOwn, sFor, sFrz, sExpr, sApp, sExt, sPar, sRaise, evM, evML, eBin, eVar, eC, eUn, eCall, eLst, eTup, eAnd, eOr, eNot, eIf, eSl, eOpt, eChain, aAll, bVal, bNot, bAnd, bOr, bC, bYes, iSeq, iCall, gN, gT, gL, setAll, eLc_N, eLc_T, frz, hc]) ?_
    refine seq_nx (e := [.pu (tabD ss (plR w ps)), .pu (wsD ws), .pu (bndD b0 b1), .pu (clsD w ps), .pu (wsD hs), .no, .no, .no, .no, .no, .no, .no, .no, .no, .no, .no, .no]) ?_ ?_
    · simp [sAsg, evM, eLc_N, iSeq, eVar, it, eCall, aAll, eBin]
      rw [hts_any ws _ _ ht _ fun d => by
        cases itemsOf d with
        | ok ds =>
          simp
          cases mapL (fun d => dIx (wsD ws) d) ds <;> rfl
        | ex c => rfl
        | no => rfl]
      rfl
    refine seq_nx (e := [.pu (tabD ss (plR w ps)), .pu (wsD ws), .pu (bndD b0 b1), .pu (clsD w ps), .pu (wsD hs), .pu (.int ((dueN hs b0 b1 ws.sum : Nat) : Int)), .no, .no, .no, .no, .no, .no, .no, .no, .no, .no, .no]) (by simp [runB, entry, sSeq, sAsg, sAsgT, sRet, sRetN, sIf, sNil, sOwn, sFor, sFrz, sExpr, sApp, sExt, sPar, sRaise, evM, evML, eBin, eVar, eC, eUn, eCall, eLst, eTup, eAnd, eOr, eNot, eIf, eSl, eOpt, eChain, aAll, bVal, bNot, bAnd, bOr, bC, bYes, iSeq, iCall, gN, gT, gL, setAll, eLc_N, eLc_T, frz, sw, most]) ?_
    refine seq_nx (e := [.pu (tabD ss (plR w ps)), .pu (wsD ws), .pu (bndD b0 b1), .pu (clsD w ps), .pu (wsD hs), .pu (.int ((dueN hs b0 b1 ws.sum : Nat) : Int)), .pu d, .no, .no, .no, .no, .no, .no, .no, .no, .no, .no]) (by simp [runB, entry, sSeq, sAsg, sAsgT, sRet, sRetN, sIf, sNil, sOwn, sFor, sFrz, sExpr, sApp, sExt, sPar, sRaise, evM, evML, eBin, eVar, eC, eUn, eCall, eLst, eTup, eAnd, eOr, eNot, eIf, eSl, eOpt, eChain, aAll, bVal, bNot, bAnd, bOr, bC, bYes, iSeq, iCall, gN, gT, gL, setAll, eLc_N, eLc_T, frz, td]) ?_
    exact hr
  rcases gs with ⟨j, j1, j2, j3, j4, j5⟩ | ⟨a1, a2⟩
  · have du := due_some j1 j2 j3 j4
    rw [du] at start
    have fl := grps_flat hs j
    have gl := grps_len j2
    have ge := grps_each j1 j2
    have gm := fun g hg => fun a ha => grps_mem (hs := hs) (j := j) (g := g) hg (a := a) ha
    have gt := grps_told j1 j2
    have so : srL (grps hs j) = grps hs j := srL_idem _
    have sg := gSort_rows (grps hs j) (by omega)
    rw [so] at sg
    generalize grps hs j = F at *
    have hF : Parts F (kinds ps w).length := ⟨by rw [← hkl]; exact fl⟩
    have fll : F.flatten.length = hs.length := by rw [fl.length_eq, rgI_len]
    have gle : ∀ g ∈ F, g.length ≤ 1000 := fun g hg => by
      have : g.length ≤ F.flatten.length := (List.sublist_flatten_of_mem hg).length_le
      omega
    have gg := grouped_ok h F hF (by omega)
    have mo := gSort_ints F.flatten (by omega)
    rw [srI_eq fl (rgI_pw _)] at mo
    have lr := lstRg_ok hs.length (by omega)
    have lg := len_gr F
    have ga := gAll_map (fun _ : List Int => true) F
    have tm := told_sum hs F (fun g hg => (ge g hg).2) gm (by omega) gle
    have ts := gSum_ws (F.map fun g => maxL (g.map (gH hs)))
    rw [gt] at ts
    rw [start (grD F) (.rt (.bool true)) j5 ?_]
    · rfl
    have nz : ¬ ((hs.length + 1 - j : Nat) : Int) = 0 := by omega
    have ed : ((hs.length + 1 - j : Nat) : Int) = (F.length : Int) := by omega
    rw [ed] at nz ⊢
    refine seq_nx (e := [.pu (tabD ss (plR w ps)), .pu (wsD ws), .pu (bndD b0 b1), .pu (clsD w ps), .pu (wsD hs), .pu (.int (F.length : Int)), .pu (grD F), .no, .no, .no, .no, .no, .no, .no, .no, .no, .no]) ?_ ?_
    · have i0 : isNone (grD F) = false := rfl
      have fne : ¬ F = [] := fun z => by rw [z] at gl; simp at gl; omega
      simp [runB, entry, sSeq, sAsg, sAsgT, sRet, sRetN, sIf, sNil, sOwn, sFor, sFrz, sExpr, sApp, sExt, sPar, sRaise, evM, evML, eBin, eVar, eC, eUn, eCall, eLst, eTup, eAnd, eOr, eNot, eIf, eSl, eOpt, eChain, aAll, bVal, bNot, bAnd, bOr, bC, bYes, iSeq, iCall, gN, gT, gL, setAll, eLc_N, eLc_T, frz, i0, nz, fne]
    refine seq_nx (e := [.pu (tabD ss (plR w ps)), .pu (wsD ws), .pu (bndD b0 b1), .pu (clsD w ps), .pu (wsD hs), .pu (.int (F.length : Int)), .pu (grD F), .ow (.list []), .no, .no, .no, .no, .no, .no, .no, .no, .no]) (by simp [runB, entry, sSeq, sAsg, sAsgT, sRet, sRetN, sIf, sNil, sOwn, sFor, sFrz, sExpr, sApp, sExt, sPar, sRaise, evM, evML, eBin, eVar, eC, eUn, eCall, eLst, eTup, eAnd, eOr, eNot, eIf, eSl, eOpt, eChain, aAll, bVal, bNot, bAnd, bOr, bC, bYes, iSeq, iCall, gN, gT, gL, setAll, eLc_N, eLc_T, frz]) ?_
    obtain ⟨y8, m8⟩ := members_ok (fun i => ([.pu (tabD ss (plR w ps)), .pu (wsD ws), .pu (bndD b0 b1), .pu (clsD w ps), .pu (wsD hs), .pu (.int (F.length : Int)), .pu (grD F)] : List Sl).getD i .no) F (by omega)
    simp at m8
    refine seq_nx (e := [.pu (tabD ss (plR w ps)), .pu (wsD ws), .pu (bndD b0 b1), .pu (clsD w ps), .pu (wsD hs), .pu (.int (F.length : Int)), .pu (grD F), .ow (wsD F.flatten), y8, .no, .no, .no, .no, .no, .no, .no, .no]) (by simp [runB, entry, sSeq, sAsg, sAsgT, sRet, sRetN, sIf, sNil, sOwn, sFor, sFrz, sExpr, sApp, sExt, sPar, sRaise, evM, evML, eBin, eVar, eC, eUn, eCall, eLst, eTup, eAnd, eOr, eNot, eIf, eSl, eOpt, eChain, aAll, bVal, bNot, bAnd, bOr, bC, bYes, iSeq, iCall, gN, gT, gL, setAll, eLc_N, eLc_T, frz, it_gr, m8]) ?_
    refine seq_nx (e := [.pu (tabD ss (plR w ps)), .pu (wsD ws), .pu (bndD b0 b1), .pu (clsD w ps), .pu (wsD hs), .pu (.int (F.length : Int)), .pu (grD F), .ow (wsD F.flatten), y8, .no, .no, .no, .no, .no, .no, .no, .no]) ?_ ?_
    · have n1 := dNe_self (shp_ws (rgI hs.length))
      have il : dIsi "list" (grD F) = .ok (.bool true) := isi_list _
      simp [runB, entry, sSeq, sAsg, sAsgT, sRet, sRetN, sIf, sNil, sOwn, sFor, sFrz, sExpr, sApp, sExt, sPar, sRaise, evM, evML, eBin, eVar, eC, eUn, eCall, eLst, eTup, eAnd, eOr, eNot, eIf, eSl, eOpt, eChain, aAll, bVal, bNot, bAnd, bOr, bC, bYes, iSeq, iCall, gN, gT, gL, setAll, eLc_N, eLc_T, frz, il, lg, mo, gc, lr, n1]
    refine seq_nx (e := [.pu (tabD ss (plR w ps)), .pu (wsD ws), .pu (bndD b0 b1), .pu (clsD w ps), .pu (wsD hs), .pu (.int (F.length : Int)), .pu (grD F), .ow (wsD F.flatten), y8, .no, .no, .no, .no, .no, .no, .no, .no]) ?_ ?_
    · have n1 := dNe_self (shp_gr F)
      have at1 : (F.all fun _ => true) = true := by simp
      rw [at1] at ga
      simp [sIf, bOr, bNot, bVal, eBin, eCall, aAll, eVar, eLc_N, iSeq, it_gr, eAnd, eLst, sg, n1]
      rw [mapL_ok (enc := wsD) (g := fun _ => .bool true) (fun g hg' => by
        have s := gSort_ints g (by have := gle g hg'; omega)
        rw [(ge g hg').1] at s
        have e := dEq_self (shp_ws g)
        have n : dNe (wsD g) (.list []) = .ok (.bool true) := by
          unfold wsD
          rw [dNe_nil _ (shaped_ints g)]
          cases g with
          | nil => exact absurd rfl (ge _ hg').2
          | cons _ _ => rfl
        simp [s, e, n, eBin, eVar, eLst, aAll]) (by omega)]
      simp [ga, sNil]
    refine seq_nx (e := [.pu (tabD ss (plR w ps)), .pu (wsD ws), .pu (bndD b0 b1), .pu (clsD w ps), .pu (wsD hs), .pu (.int (F.length : Int)), .pu (grD F), .ow (wsD F.flatten), y8, .pu (.int (lft hs j)), .no, .no, .no, .no, .no, .no, .no]) ?_ ?_
    · simp [sAsg, evM, eLc_N, iSeq, eVar, it_gr, eCall, aAll, eBin]
      rw [hts_any hs _ _ tm _ fun d => by
        cases itemsOf d with
        | ok ds =>
          simp
          cases mapL (fun d => dIx (wsD hs) d) ds <;> rfl
        | ex c => rfl
        | no => rfl]
      simp [ts]
    refine seq_nx (e := [.pu (tabD ss (plR w ps)), .pu (wsD ws), .pu (bndD b0 b1), .pu (clsD w ps), .pu (wsD hs), .pu (.int (F.length : Int)), .pu (grD F), .ow (wsD F.flatten), y8, .pu (.int (lft hs j)), .no, .no, .no, .no, .no, .no, .no]) ?_ ?_
    · have i1 : dIx (bndD b0 b1) (.int 1) = .ok (.int b1) := by simp [bndD]
      have i0 : dIx (bndD b0 b1) (.int 0) = .ok (.int b0) := by simp [bndD]
      have m1 : dMul (.int (lft hs j)) (.int b1) = .ok (.int (lft hs j * b1)) := dMul_int (mulOk_r hb.c1 hb.c2)
      have m0 : dMul (.int b0) (.int ws.sum) = .ok (.int (b0 * ws.sum)) := dMul_int (mulOk_l hb.a1 hb.a2)
      have nc : ¬ b0 * ws.sum < lft hs j * b1 := j3
      simp [runB, entry, sSeq, sAsg, sAsgT, sRet, sRetN, sIf, sNil, sOwn, sFor, sFrz, sExpr, sApp, sExt, sPar, sRaise, evM, evML, eBin, eVar, eC, eUn, eCall, eLst, eTup, eAnd, eOr, eNot, eIf, eSl, eOpt, eChain, aAll, bVal, bNot, bAnd, bOr, bC, bYes, iSeq, iCall, gN, gT, gL, setAll, eLc_N, eLc_T, frz, i1, i0, m1, m0, sw, nc]
    refine seq_nx (e := [.pu (tabD ss (plR w ps)), .pu (wsD ws), .pu (bndD b0 b1), .pu (clsD w ps), .pu (wsD hs), .pu (.int (F.length : Int)), .pu (grD F), .ow (wsD F.flatten), y8, .pu (.int (lft hs j)), .pu (.tuple [.list ((List.range F.length).map fun i : Nat => .tuple [.int (i : Int)]), rowsD (grR F w ps)]), .no, .no, .no, .no, .no, .no]) (by
      have gg : g_grouped [tabD ss (plR w ps), grD F] = .ok (.tuple [.list ((List.range F.length).map fun i : Nat => .tuple [.int (i : Int)]), rowsD (grR F w ps)]) := gg
      simp [runB, entry, sSeq, sAsg, sAsgT, sRet, sRetN, sIf, sNil, sOwn, sFor, sFrz, sExpr, sApp, sExt, sPar, sRaise, evM, evML, eBin, eVar, eC, eUn, eCall, eLst, eTup, eAnd, eOr, eNot, eIf, eSl, eOpt, eChain, aAll, bVal, bNot, bAnd, bOr, bC, bYes, iSeq, iCall, gN, gT, gL, setAll, eLc_N, eLc_T, frz, gg]) ?_
    refine seq_nx (e := [.pu (tabD ss (plR w ps)), .pu (wsD ws), .pu (bndD b0 b1), .pu (clsD w ps), .pu (wsD hs), .pu (.int (F.length : Int)), .pu (grD F), .ow (wsD F.flatten), y8, .pu (.int (lft hs j)), .pu (.tuple [.list ((List.range F.length).map fun i : Nat => .tuple [.int (i : Int)]), rowsD (grR F w ps)]), .no, .no, .no, .no, .no, .no]) ?_ ?_
    · have rg := rng1_map F.length (by omega)
      have mt : mapL (fun d => R.ok (PyData.tuple [d])) ((List.range F.length).map fun i : Nat => .int (i : Int)) = .ok (.list ((List.range F.length).map fun i : Nat => .tuple [.int (i : Int)])) := mapL_ok (enc := fun i : Nat => PyData.int (i : Int)) (g := fun i : Nat => .tuple [.int (i : Int)]) (fun _ _ => rfl) (by simp; omega)
      have n1 := dNe_self (shp_sg F.length)
      simp [runB, entry, sSeq, sAsg, sAsgT, sRet, sRetN, sIf, sNil, sOwn, sFor, sFrz, sExpr, sApp, sExt, sPar, sRaise, evM, evML, eBin, eVar, eC, eUn, eCall, eLst, eTup, eAnd, eOr, eNot, eIf, eSl, eOpt, eChain, aAll, bVal, bNot, bAnd, bOr, bC, bYes, iSeq, iCall, gN, gT, gL, setAll, eLc_N, eLc_T, frz, lg, rg, mt, n1]
    obtain ⟨y11, y12, y13, y14, rl⟩ := right_loop (fun i => ([.pu (tabD ss (plR w ps)), .pu (wsD ws), .pu (bndD b0 b1), .pu (clsD w ps), .pu (wsD hs), .pu (.int (F.length : Int)), .pu (grD F), .ow (wsD F.flatten), y8, .pu (.int (lft hs j)), .pu (.tuple [.list ((List.range F.length).map fun i : Nat => .tuple [.int (i : Int)]), rowsD (grR F w ps)])] : List Sl).getD i .no) h F hF (by omega) _ rfl rfl
    simp at rl
    have ec := enum_gr (clsI w ps)
    rw [← clsD_I] at ec
    simp [runB, entry, sSeq, sAsg, sAsgT, sRet, sRetN, sIf, sNil, sOwn, sFor, sFrz, sExpr, sApp, sExt, sPar, sRaise, evM, evML, eBin, eVar, eC, eUn, eCall, eLst, eTup, eAnd, eOr, eNot, eIf, eSl, eOpt, eChain, aAll, bVal, bNot, bAnd, bOr, bC, bYes, iSeq, iCall, gN, gT, gL, setAll, eLc_N, eLc_T, frz, ec, rl]
  · have du := due_none a1
    rw [du] at start
    rw [start .none (.rt (.bool true)) a2 ?_]
    · rfl
    · simp [runB, entry, sSeq, sAsg, sAsgT, sRet, sRetN, sIf, sNil, sOwn, sFor, sFrz, sExpr, sApp, sExt, sPar, sRaise, evM, evML, eBin, eVar, eC, eUn, eCall, eLst, eTup, eAnd, eOr, eNot, eIf, eSl, eOpt, eChain, aAll, bVal, bNot, bAnd, bOr, bC, bYes, iSeq, iCall, gN, gT, gL, setAll, eLc_N, eLc_T, frz, isNone, dIs]
end
/-! what is refused -/
theorem needtab_nil7 : g_need_table [.tuple [.list [], .list []]] = .ex 3 := by
  rw [g_need_table_eq]
  unfold fb_need_table
  simp [runB, entry, sSeq, sAsg, sAsgT, sRet, sRetN, sIf, sNil, sOwn, sFor, sFrz, sExpr, sApp, sExt, sPar, sRaise, evM, evML, eBin, eVar, eC, eUn, eCall, eLst, eTup, eAnd, eOr, eNot, eIf, eSl, eOpt, eChain, aAll, bVal, bNot, bAnd, bOr, bC, bYes, iSeq, iCall, gN, gT, gL, setAll, eLc_N, eLc_T, frz, dEq_nil]
noncomputable def hlfR (many : Nat) : List (List Rat) := List.replicate many [(2 : Rat)⁻¹, (2 : Rat)⁻¹]
theorem hlf_ok (many : Nat) (h : many ≤ 9) (h1 : 1 ≤ many) : TabOk 2 10 [.tuple [.int 0], .tuple [.int 1]] (hlfR many) := by
  refine ⟨sg2_ok, by simp, by simp [hlfR]; omega, fun row hr => ?_, by simp, by simp [hlfR]; omega, by decide⟩
  unfold hlfR at hr
  have e2 : (2 : Rat)⁻¹ + ((2 : Rat)⁻¹ + 0) = 1 := by
    have : (2 : Rat) * (2 : Rat)⁻¹ = 1 := Rat.mul_inv_cancel _ (by decide)
    grind
  have := List.eq_of_mem_replicate hr
  subst this
  refine ⟨⟨fun r hr => ?_, fun r hr => ?_, ?_⟩, rfl⟩
  · have : r = (2 : Rat)⁻¹ := by simpa using hr
    subst this
    exact bq_inv (by decide) ⟨by decide, by decide⟩
  · have : r = (2 : Rat)⁻¹ := by simpa using hr
    subst this
    exact Rat.le_of_lt (Rat.inv_pos.mpr (by decide))
  · rw [qsum, qsum, qsum]
    exact e2
theorem hlf_no (many : Nat) (h : many ≤ 9) (h1 : 1 ≤ many) : g_need_plain [tabD [.tuple [.int 0], .tuple [.int 1]] (hlfR many)] = .ex 5 := by
  rw [needplain_gen (hlf_ok many h h1), if_neg]
  unfold isPl hlfR
  have : isPlR [(2 : Rat)⁻¹, (2 : Rat)⁻¹] = false := by
    have a : (2 : Rat)⁻¹ ≠ 0 := fun z => by
      have : (0 : Rat) < (2 : Rat)⁻¹ := Rat.inv_pos.mpr (by decide)
      rw [z] at this
      exact Rat.lt_irrefl this
    have b : (2 : Rat)⁻¹ ≠ 1 := fun z => by
      have : (2 : Rat) * (2 : Rat)⁻¹ = 1 := Rat.mul_inv_cancel _ (by decide)
      rw [z] at this
      grind
    simp [isPlR, a, b]
  obtain ⟨m, rfl⟩ : ∃ m, many = m + 1 := ⟨many - 1, by omega⟩
  rw [List.replicate_succ, List.all_cons, this]
  simp
theorem hlf_D (many : Nat) (h : many ≤ 9) : dMul (.list [.list [.tuple [.int 1, .int 2], .tuple [.int 1, .int 2]]]) (.int (many : Int)) = .ok (rowsD (hlfR many)) := by
  have h1 := szl_eq
  have h2 := lim_eq
  unfold dMul
  dsimp only
  rw [if_pos ⟨by simp; omega, by omega, by omega⟩, rowsD_eq, Int.toNat_natCast]
  congr 2
  unfold hlfR
  rw [List.map_replicate]
  have e : frL [(2 : Rat)⁻¹, (2 : Rat)⁻¹] = .list [.tuple [.int 1, .int 2], .tuple [.int 1, .int 2]] := by
    unfold frL
    rw [half_fr]
    rfl
  rw [e]
  induction many with
  | zero => rfl
  | succ n ih => rw [List.replicate_succ, List.replicate_succ, List.flatten_cons, ih (by omega)]; rfl
theorem groups_ex1 (T W B : PyData) (c : Nat) (h : g_need_plain [T] = .ex c) : g_groups [T, W, B] = .ex c := by
  rw [g_groups_eq]
  unfold fb_groups
  simp [runB, entry, sSeq, sExpr, eCall, aAll, eVar, h]
theorem groups_ex2 {w : Nat} {ss : List PyData} {ps : List Nat} (h : PlOk w ss ps) (W B : PyData) (c : Nat) (hw : g_need_weights [W, .int (ps.length : Int)] = .ex c) : g_groups [tabD ss (plR w ps), W, B] = .ex c := by
  have np := h.need
  have gl := h.len1
  rw [g_groups_eq]
  unfold fb_groups
  simp [runB, entry, sSeq, sExpr, eCall, aAll, eVar, np, eBin, eC, tab_1, gl, hw]
theorem wd4 : wdL 4 = some "BadWeights" := by simp [wdL]
/-! the bounds -/
theorem bnd_fr {n : Nat} {x : Rat} (h : Bq n x) (hn : n ≤ 60) : frD x = bndD x.num x.den ∧ BnOk x.num x.den := by
  have h1 : x.num.natAbs < 2 ^ 60 := Nat.lt_of_lt_of_le h.1 (Nat.pow_le_pow_right (by decide) hn)
  have h2 : x.den < 2 ^ 60 := Nat.lt_of_lt_of_le h.2 (Nat.pow_le_pow_right (by decide) hn)
  have e : (2 : Nat) ^ 60 = 1152921504606846976 := by decide
  rw [e] at h1 h2
  exact ⟨frD_eq x, by omega, by omega, by omega, by omega⟩
theorem plus_bnd {x : Rat} (h : Bq 9 x) (r s : Int) (hr : -2000 < r ∧ r < 2000) (hs : 0 < s ∧ s < 2000) : ∃ b0 b1, g__law_plus [frD x, .tuple [.int r, .int s]] = .ok (bndD b0 b1) ∧ BnOk b0 b1 := by
  obtain ⟨h1, h2⟩ := h
  have e9 : (2 : Nat) ^ 9 = 512 := by decide
  rw [e9] at h1 h2
  have dp := x.den_pos
  have q0 : 0 < (x.den : Int) * s := Int.mul_pos (by omega) hs.1
  have q1 : (x.den : Int) * s < 512 * 2000 := by
    have a : (x.den : Int) * s ≤ 512 * s := Int.mul_le_mul_of_nonneg_right (by omega) (by omega)
    have : (512 : Int) * s < 512 * 2000 := by omega
    omega
  have p1 : (x.num * s).natAbs < 512 * 2000 := by
    rw [Int.natAbs_mul]
    exact Nat.mul_lt_mul'' h1 (by omega)
  have p2 : (r * (x.den : Int)).natAbs < 2000 * 512 := by
    rw [Int.natAbs_mul]
    exact Nat.mul_lt_mul'' (by omega) (by omega)
  have md := lmade_d (x.num * s + r * (x.den : Int)) ((x.den : Int) * s) q0 (K := 40) (by decide) (by
    have : (2 : Nat) ^ 40 = 1099511627776 := by decide
    rw [this]
    omega)
  have bq : Bq 40 (mkRat (x.num * s + r * (x.den : Int)) ((x.den : Int) * s).toNat) := bq_mk (by omega) (by
    have : (2 : Nat) ^ 40 = 1099511627776 := by decide
    rw [this]
    omega) (by
    have : (2 : Nat) ^ 40 = 1099511627776 := by decide
    rw [this]
    omega)
  obtain ⟨e, ok⟩ := bnd_fr bq (by decide)
  refine ⟨_, _, ?_, ok⟩
  rw [← e, frD_eq x]
  exact lplus_d _ _ _ _ _ md (mulOk_r (by omega) (by omega)) (mulOk_r (by omega) (by omega)) (mulOk_r (by omega) (by omega))
theorem turn_ok (ns : List Int) (hl : ns.length ≤ 63) (k : Nat) (y : Nat → Sl) : ∃ y' : Nat → Sl, lp_law_0 [.pu (.list (ns.map .int)), .pu (.int (k : Int)), y 2, y 3, y 4, y 5, y 6, y 7, y 8, y 9, .no] = .nx [.pu (.list (ns.map .int)), .pu (.int (k : Int)), y' 2, y' 3, y' 4, y' 5, y' 6, y' 7, y' 8, y' 9, .no] := by
  have c1 := celV_eq ns k hl (by omega)
  generalize hmo : drw (celV ns k) k = more
  have m0 : 0 ≤ more := by rw [← hmo]; exact drw_0 _ _
  have dr : g__law_drawn [.int (celV ns k), .int k] = .ok (.int more) := by rw [← hmo]; exact drw_eq _ _
  generalize hmany : (1 + more % 9).toNat = many
  have me : (1 + more % 9 : Int) = (many : Int) := by omega
  generalize hw1 : (1 + more / 256 % 7).toNat = w
  have we : (1 + more / 256 % 7 : Int) = (w : Int) := by omega
  have q1 := lplain_ok (more / 16) many w (by omega) (by omega) (by omega)
  have P : PlOk w (plS (more / 16) w) (plP (more / 16) many w) := pl_ok _ _ _ (by omega) (by omega) (by omega) (by omega)
  have pl := plP_len (more / 16) many w
  have wq := lweights_ok more many (by omega) (by omega)
  have W : WsOk 9 (wtL more many) := wtL_ok more many (by omega) (by omega)
  have wl := wtL_len more many
  have wb := fun n hn => wtL_b (more := more) (many := many) (n := n) hn
  generalize plS (more / 16) w = ss at *
  generalize plP (more / 16) many w = ps at *
  generalize wtL more many = ws at *
  have hwl : ws.length = ps.length := by omega
  have wne : ws ≠ [] := fun z => by rw [z] at wl; simp at wl; omega
  have gm := gMaxL_ints wne
  have sm := gSum_ws ws
  have s0 : 0 < ws.sum := by
    have := sum_ge_mem (ns := ws) (fun n hn => (wb n hn).1) (maxL_mem wne).1
    have := W.s
    have := (wb _ (maxL_mem wne).1).1
    omega
  have sb := W.sb
  have mb := W.b _ (maxL_mem wne).1
  have md := lmade_d (maxL ws) ws.sum s0 (K := 9) (by decide) sb
  have bq : Bq 9 (mkRat (maxL ws) ws.sum.toNat) := bq_mk (by omega) mb (by omega)
  generalize mkRat (maxL ws) ws.sum.toNat = lo at *
  obtain ⟨el, ol⟩ := bnd_fr bq (by decide)
  obtain ⟨a0, a1, ea, oa⟩ := plus_bnd bq (-1) 1000 (by omega) (by omega)
  obtain ⟨b0, b1, eb, ob⟩ := plus_bnd bq (1 + more / 2048 % 30) 60 (by omega) (by omega)
  have rt := fun (p : Int × Int) (hp : BnOk p.1 p.2) => right_ok P W hwl p.1 p.2 hp
  have d9 : ∀ x : Int, dMod (.int x) (.int 9) = .ok (.int (x % 9)) := fun x => dMod_int (by decide)
  have d7 : ∀ x : Int, dMod (.int x) (.int 7) = .ok (.int (x % 7)) := fun x => dMod_int (by decide)
  have d30 : ∀ x : Int, dMod (.int x) (.int 30) = .ok (.int (x % 30)) := fun x => dMod_int (by decide)
  have e16 : dDiv (.int more) (.int 16) = .ok (.int (more / 16)) := dDiv_int (divOk_small (by decide) (by decide))
  have e256 : dDiv (.int more) (.int 256) = .ok (.int (more / 256)) := dDiv_int (divOk_small (by decide) (by decide))
  have e2048 : dDiv (.int more) (.int 2048) = .ok (.int (more / 2048)) := dDiv_int (divOk_small (by decide) (by decide))
  have t1 := ltold_ex (groups_ex1 (tabD [.tuple [.int 0], .tuple [.int 1]] (hlfR many)) (wsD ws) (.tuple [.int 1, .int 1]) 5 (hlf_no many (by omega) (by omega))) wd5
  have t2 := ltold_ex (groups_ex2 P (wsD (ws.drop 1)) (.tuple [.int 1, .int 1]) 4 (needw_bad (ws.drop 1) ps.length (by simp; omega) (.inl (by simp; omega)))) wd4
  have t3 := ltold_ex (groups_ex1 (.tuple [.list [], .list []]) (wsD ws) (.tuple [.int 1, .int 1]) 3 (plain_tab _ _ needtab_nil7)) wd3
  have sd : dSl (wsD ws) (some 1) none = .ok (wsD (ws.drop 1)) := by
    have := sl_from ws 1 (by omega)
    simpa using this
  have hd := hlf_D many (by omega)
  have al : mapL (fun b => g__law_right [tabD ss (plR w ps), wsD ws, b]) (([(lo.num, (lo.den : Int)), (a0, a1), (1, 1), (b0, b1), (0, 1), (-1, 2), (7, 2)] : List (Int × Int)).map fun p => bndD p.1 p.2) = .ok (.list (([(lo.num, (lo.den : Int)), (a0, a1), (1, 1), (b0, b1), (0, 1), (-1, 2), (7, 2)] : List (Int × Int)).map fun _ => .bool true)) := mapL_ok (enc := fun p : Int × Int => bndD p.1 p.2) (g := fun _ => .bool true) (fun p hp => rt p (by
    simp only [List.mem_cons, List.not_mem_nil, or_false] at hp
    rcases hp with rfl | rfl | rfl | rfl | rfl | rfl | rfl
    · exact ol
    · exact oa
    · exact ⟨by decide, by decide, by decide, by decide⟩
    · exact ob
    · exact ⟨by decide, by decide, by decide, by decide⟩
    · exact ⟨by decide, by decide, by decide, by decide⟩
    · exact ⟨by decide, by decide, by decide, by decide⟩)) (by simp)
  have ga := gAll_map (fun _ : Int × Int => true) [(lo.num, (lo.den : Int)), (a0, a1), (1, 1), (b0, b1), (0, 1), (-1, 2), (7, 2)]
  have e11 : PyData.tuple [.int 1, .int 1] = bndD 1 1 := rfl
  simp only [List.map_cons, List.map_nil, List.all_cons, List.all_nil, Bool.and_true] at al ga
  rw [← el] at al
  refine ⟨fun i => [.no, .no, .pu (.int more), .pu (.int many), .pu (tabD ss (plR w ps)), .pu (wsD ws), .pu (frD lo), .pu (.list [frD lo, bndD a0 a1, bndD 1 1, bndD b0 b1, bndD 0 1, bndD (-1) 2, bndD 7 2]), .pu (tabD [.tuple [.int 0], .tuple [.int 1]] (hlfR many)), .ow (.list [.str "NotPlain", .str "BadWeights", .str "BadTable"])].getD i .no, ?_⟩
  unfold lp_law_0
  refine seq_nx (e := [.pu (.list (ns.map .int)), .pu (.int (k : Int)), .pu (.int more), y 3, y 4, y 5, y 6, y 7, y 8, y 9, .no]) (by simp [runB, entry, sSeq, sAsg, sAsgT, sRet, sRetN, sIf, sNil, sOwn, sFor, sFrz, sExpr, sApp, sExt, sPar, sRaise, evM, evML, eBin, eVar, eC, eUn, eCall, eLst, eTup, eAnd, eOr, eNot, eIf, eSl, eOpt, eChain, aAll, bVal, bNot, bAnd, bOr, bC, bYes, iSeq, iCall, gN, gT, gL, setAll, eLc_N, eLc_T, frz, c1, dr]) ?_
  refine seq_nx (e := [.pu (.list (ns.map .int)), .pu (.int (k : Int)), .pu (.int more), .pu (.int many), y 4, y 5, y 6, y 7, y 8, y 9, .no]) (by simp [runB, entry, sSeq, sAsg, sAsgT, sRet, sRetN, sIf, sNil, sOwn, sFor, sFrz, sExpr, sApp, sExt, sPar, sRaise, evM, evML, eBin, eVar, eC, eUn, eCall, eLst, eTup, eAnd, eOr, eNot, eIf, eSl, eOpt, eChain, aAll, bVal, bNot, bAnd, bOr, bC, bYes, iSeq, iCall, gN, gT, gL, setAll, eLc_N, eLc_T, frz, d9, me]) ?_
  refine seq_nx (e := [.pu (.list (ns.map .int)), .pu (.int (k : Int)), .pu (.int more), .pu (.int many), .pu (tabD ss (plR w ps)), y 5, y 6, y 7, y 8, y 9, .no]) (by simp [runB, entry, sSeq, sAsg, sAsgT, sRet, sRetN, sIf, sNil, sOwn, sFor, sFrz, sExpr, sApp, sExt, sPar, sRaise, evM, evML, eBin, eVar, eC, eUn, eCall, eLst, eTup, eAnd, eOr, eNot, eIf, eSl, eOpt, eChain, aAll, bVal, bNot, bAnd, bOr, bC, bYes, iSeq, iCall, gN, gT, gL, setAll, eLc_N, eLc_T, frz, e16, e256, d7, we, q1]) ?_
  refine seq_nx (e := [.pu (.list (ns.map .int)), .pu (.int (k : Int)), .pu (.int more), .pu (.int many), .pu (tabD ss (plR w ps)), .pu (wsD ws), y 6, y 7, y 8, y 9, .no]) (by simp [runB, entry, sSeq, sAsg, sAsgT, sRet, sRetN, sIf, sNil, sOwn, sFor, sFrz, sExpr, sApp, sExt, sPar, sRaise, evM, evML, eBin, eVar, eC, eUn, eCall, eLst, eTup, eAnd, eOr, eNot, eIf, eSl, eOpt, eChain, aAll, bVal, bNot, bAnd, bOr, bC, bYes, iSeq, iCall, gN, gT, gL, setAll, eLc_N, eLc_T, frz, wq]) ?_
  refine seq_nx (e := [.pu (.list (ns.map .int)), .pu (.int (k : Int)), .pu (.int more), .pu (.int many), .pu (tabD ss (plR w ps)), .pu (wsD ws), .pu (frD lo), y 7, y 8, y 9, .no]) (by simp [runB, entry, sSeq, sAsg, sAsgT, sRet, sRetN, sIf, sNil, sOwn, sFor, sFrz, sExpr, sApp, sExt, sPar, sRaise, evM, evML, eBin, eVar, eC, eUn, eCall, eLst, eTup, eAnd, eOr, eNot, eIf, eSl, eOpt, eChain, aAll, bVal, bNot, bAnd, bOr, bC, bYes, iSeq, iCall, gN, gT, gL, setAll, eLc_N, eLc_T, frz, gm, sm, md]) ?_
  refine seq_nx (e := [.pu (.list (ns.map .int)), .pu (.int (k : Int)), .pu (.int more), .pu (.int many), .pu (tabD ss (plR w ps)), .pu (wsD ws), .pu (frD lo), .pu (.list [frD lo, bndD a0 a1, bndD 1 1]), y 8, y 9, .no]) (by simp [runB, entry, sSeq, sAsg, sAsgT, sRet, sRetN, sIf, sNil, sOwn, sFor, sFrz, sExpr, sApp, sExt, sPar, sRaise, evM, evML, eBin, eVar, eC, eUn, eCall, eLst, eTup, eAnd, eOr, eNot, eIf, eSl, eOpt, eChain, aAll, bVal, bNot, bAnd, bOr, bC, bYes, iSeq, iCall, gN, gT, gL, setAll, eLc_N, eLc_T, frz, dNeg, ea, bndD]) ?_
  refine seq_nx (e := [.pu (.list (ns.map .int)), .pu (.int (k : Int)), .pu (.int more), .pu (.int many), .pu (tabD ss (plR w ps)), .pu (wsD ws), .pu (frD lo), .pu (.list [frD lo, bndD a0 a1, bndD 1 1, bndD b0 b1, bndD 0 1, bndD (-1) 2, bndD 7 2]), y 8, y 9, .no]) (by
    have ad : dAdd (.list [frD lo, bndD a0 a1, bndD 1 1]) (.list [bndD b0 b1, bndD 0 1, bndD (-1) 2, bndD 7 2]) = .ok (.list [frD lo, bndD a0 a1, bndD 1 1, bndD b0 b1, bndD 0 1, bndD (-1) 2, bndD 7 2]) := dAdd_list (by simp)
    have z1 : PyData.tuple [.int 0, .int 1] = bndD 0 1 := rfl
    have z2 : PyData.tuple [.int (-1), .int 2] = bndD (-1) 2 := rfl
    have z3 : PyData.tuple [.int 7, .int 2] = bndD 7 2 := rfl
    simp [runB, entry, sSeq, sAsg, sAsgT, sRet, sRetN, sIf, sNil, sOwn, sFor, sFrz, sExpr, sApp, sExt, sPar, sRaise, evM, evML, eBin, eVar, eC, eUn, eCall, eLst, eTup, eAnd, eOr, eNot, eIf, eSl, eOpt, eChain, aAll, bVal, bNot, bAnd, bOr, bC, bYes, iSeq, iCall, gN, gT, gL, setAll, eLc_N, eLc_T, frz, dNeg, e2048, d30, eb, z1, z2, z3, ad]) ?_
  refine seq_nx (e := [.pu (.list (ns.map .int)), .pu (.int (k : Int)), .pu (.int more), .pu (.int many), .pu (tabD ss (plR w ps)), .pu (wsD ws), .pu (frD lo), .pu (.list [frD lo, bndD a0 a1, bndD 1 1, bndD b0 b1, bndD 0 1, bndD (-1) 2, bndD 7 2]), y 8, y 9, .no]) (by
    have it : itemsOf (.list [frD lo, bndD a0 a1, bndD 1 1, bndD b0 b1, bndD 0 1, bndD (-1) 2, bndD 7 2]) = .ok [frD lo, bndD a0 a1, bndD 1 1, bndD b0 b1, bndD 0 1, bndD (-1) 2, bndD 7 2] := rfl
    simp [runB, entry, sSeq, sAsg, sAsgT, sRet, sRetN, sIf, sNil, sOwn, sFor, sFrz, sExpr, sApp, sExt, sPar, sRaise, evM, evML, eBin, eVar, eC, eUn, eCall, eLst, eTup, eAnd, eOr, eNot, eIf, eSl, eOpt, eChain, aAll, bVal, bNot, bAnd, bOr, bC, bYes, iSeq, iCall, gN, gT, gL, setAll, eLc_N, eLc_T, frz, it, al, ga]) ?_
  refine seq_nx (e := [.pu (.list (ns.map .int)), .pu (.int (k : Int)), .pu (.int more), .pu (.int many), .pu (tabD ss (plR w ps)), .pu (wsD ws), .pu (frD lo), .pu (.list [frD lo, bndD a0 a1, bndD 1 1, bndD b0 b1, bndD 0 1, bndD (-1) 2, bndD 7 2]), .pu (tabD [.tuple [.int 0], .tuple [.int 1]] (hlfR many)), y 9, .no]) (by simp [runB, entry, sSeq, sAsg, sAsgT, sRet, sRetN, sIf, sNil, sOwn, sFor, sFrz, sExpr, sApp, sExt, sPar, sRaise, evM, evML, eBin, eVar, eC, eUn, eCall, eLst, eTup, eAnd, eOr, eNot, eIf, eSl, eOpt, eChain, aAll, bVal, bNot, bAnd, bOr, bC, bYes, iSeq, iCall, gN, gT, gL, setAll, eLc_N, eLc_T, frz, hd, tabD]) ?_
  refine seq_nx (e := [.pu (.list (ns.map .int)), .pu (.int (k : Int)), .pu (.int more), .pu (.int many), .pu (tabD ss (plR w ps)), .pu (wsD ws), .pu (frD lo), .pu (.list [frD lo, bndD a0 a1, bndD 1 1, bndD b0 b1, bndD 0 1, bndD (-1) 2, bndD 7 2]), .pu (tabD [.tuple [.int 0], .tuple [.int 1]] (hlfR many)), .ow (.list [.str "NotPlain", .str "BadWeights"]), .no]) (by simp [runB, entry, sSeq, sAsg, sAsgT, sRet, sRetN, sIf, sNil, sOwn, sFor, sFrz, sExpr, sApp, sExt, sPar, sRaise, evM, evML, eBin, eVar, eC, eUn, eCall, eLst, eTup, eAnd, eOr, eNot, eIf, eSl, eOpt, eChain, aAll, bVal, bNot, bAnd, bOr, bC, bYes, iSeq, iCall, gN, gT, gL, setAll, eLc_N, eLc_T, frz, t1, t2, sd, -List.drop_one]) ?_
  refine seq_nx (e := [.pu (.list (ns.map .int)), .pu (.int (k : Int)), .pu (.int more), .pu (.int many), .pu (tabD ss (plR w ps)), .pu (wsD ws), .pu (frD lo), .pu (.list [frD lo, bndD a0 a1, bndD 1 1, bndD b0 b1, bndD 0 1, bndD (-1) 2, bndD 7 2]), .pu (tabD [.tuple [.int 0], .tuple [.int 1]] (hlfR many)), .ow (.list [.str "NotPlain", .str "BadWeights", .str "BadTable"]), .no]) (by
    have z : 2 < szl := szl_big (by decide)
    simp [runB, entry, sSeq, sAsg, sAsgT, sRet, sRetN, sIf, sNil, sOwn, sFor, sFrz, sExpr, sApp, sExt, sPar, sRaise, evM, evML, eBin, eVar, eC, eUn, eCall, eLst, eTup, eAnd, eOr, eNot, eIf, eSl, eOpt, eChain, aAll, bVal, bNot, bAnd, bOr, bC, bYes, iSeq, iCall, gN, gT, gL, setAll, eLc_N, eLc_T, frz, t3, z]) ?_
  have sn : SeqAt.shaped (.list [.str "NotPlain", .str "BadWeights", .str "BadTable"]) = true := shaped_of (n := 2) (shp_list (shpA_cons (shp_str _ (strOk_of _)) (shpA_cons (shp_str _ (strOk_of _)) (shpA_cons (shp_str _ (strOk_of _)) (shpA_nil _))))) (by decide)
  have n1 := dNe_self sn
  simp [runB, entry, sSeq, sAsg, sAsgT, sRet, sRetN, sIf, sNil, sOwn, sFor, sFrz, sExpr, sApp, sExt, sPar, sRaise, evM, evML, eBin, eVar, eC, eUn, eCall, eLst, eTup, eAnd, eOr, eNot, eIf, eSl, eOpt, eChain, aAll, bVal, bNot, bAnd, bOr, bC, bYes, iSeq, iCall, gN, gT, gL, setAll, eLc_N, eLc_T, frz, n1]
theorem law_true (ns : List Int) (hl : ns.length ≤ 63) : g_law [.list (ns.map PyData.int)] = .ok (.bool true) := by
  obtain ⟨r, hr1, hr2, hr⟩ := law_turns ns.length 5 (by decide)
  rw [gMin2_int, R.bind_ok] at hr
  have r1 := rng1_map r (by omega)
  obtain ⟨e, h1, x1, y, hx⟩ := forF_at (tg := gN 1) (body := lp_law_0) (fun i : Nat => .int (i : Int)) (fun _ env => ∃ (x1 : Sl) (y : Nat → Sl), env = [.pu (.list (ns.map .int)), x1, y 2, y 3, y 4, y 5, y 6, y 7, y 8, y 9, .no]) (List.range r) 0
    [.pu (.list (ns.map PyData.int)), .no, .no, .no, .no, .no, .no, .no, .no, .no, .no] ⟨_, fun _ => .no, rfl⟩ (fun i hi env ⟨x1, y, he⟩ => by
      subst he
      rw [List.getElem_range]
      obtain ⟨x, q⟩ := turn_ok ns hl i y
      exact ⟨_, _, rfl, q, _, x, rfl⟩)
  subst hx
  rw [g_law_eq]
  unfold fb_law
  simp [runB, entry, sSeq, sAsg, sAsgT, sRet, sRetN, sIf, sNil, sOwn, sFor, sFrz, sExpr, sApp, sExt, sPar, sRaise, evM, evML, eBin, eVar, eC, eUn, eCall, eLst, eTup, eAnd, eOr, eNot, eIf, eSl, eOpt, eChain, aAll, bVal, bNot, bAnd, bOr, bC, bYes, iSeq, iCall, gN, gT, gL, setAll, eLc_N, eLc_T, frz]
  simp at hr
  simp [hr, r1, h1, runB, entry, sSeq, sAsg, sAsgT, sRet, sRetN, sIf, sNil, sOwn, sFor, sFrz, sExpr, sApp, sExt, sPar, sRaise, evM, evML, eBin, eVar, eC, eUn, eCall, eLst, eTup, eAnd, eOr, eNot, eIf, eSl, eOpt, eChain, aAll, bVal, bNot, bAnd, bOr, bC, bYes, iSeq, iCall, gN, gT, gL, setAll, eLc_N, eLc_T, frz]

theorem all_mk {l : PySem.W.OpenLaw} {w : World} {K : PySem.W.Frag} {h : Heap} {mg : Str → Option Value} {fa : Addr} (X : K.In h) (G : h.Ns mainGlobals mg) (hfa : mg "law" = some (.ref fa))
    {f0 : Addr} {oc0 kV0 dc0 pm0 cd0 ct0 : Value} {od0 an0 : Option Addr} {sl0 : Array (Option Value)}
    (a0 : PySem.W.nsIn K mainGlobals "_law_word" = some (some (.ref f0))) (l0 : K.lookup f0 = some ⟨oc0, od0, .func (PySem.W.fnOf "_law_word" "_law_word" (defArgs s__law_word) (defBody s__law_word) (defScope s__law_word) .none kV0 dc0 pm0 an0 cd0 ct0), sl0⟩) (c0 : PySem.W.codeIn K cd0 "_law_word" = true) (k0 : PySem.W.keepIn K (.ref f0) = true)
    {f1 : Addr} {oc1 kV1 dc1 pm1 cd1 ct1 : Value} {od1 an1 : Option Addr} {sl1 : Array (Option Value)}
    (a1 : PySem.W.nsIn K mainGlobals "_law_drawn" = some (some (.ref f1))) (l1 : K.lookup f1 = some ⟨oc1, od1, .func (PySem.W.fnOf "_law_drawn" "_law_drawn" (defArgs s__law_drawn) (defBody s__law_drawn) (defScope s__law_drawn) .none kV1 dc1 pm1 an1 cd1 ct1), sl1⟩) (c1 : PySem.W.codeIn K cd1 "_law_drawn" = true) (k1 : PySem.W.keepIn K (.ref f1) = true)
    {f2 : Addr} {oc2 kV2 dc2 pm2 cd2 ct2 : Value} {od2 an2 : Option Addr} {sl2 : Array (Option Value)}
    (a2 : PySem.W.nsIn K mainGlobals "_law_plain" = some (some (.ref f2))) (l2 : K.lookup f2 = some ⟨oc2, od2, .func (PySem.W.fnOf "_law_plain" "_law_plain" (defArgs s__law_plain) (defBody s__law_plain) (defScope s__law_plain) .none kV2 dc2 pm2 an2 cd2 ct2), sl2⟩) (c2 : PySem.W.codeIn K cd2 "_law_plain" = true) (k2 : PySem.W.keepIn K (.ref f2) = true)
    {f3 : Addr} {oc3 kV3 dc3 pm3 cd3 ct3 : Value} {od3 an3 : Option Addr} {sl3 : Array (Option Value)}
    (a3 : PySem.W.nsIn K mainGlobals "_law_weights" = some (some (.ref f3))) (l3 : K.lookup f3 = some ⟨oc3, od3, .func (PySem.W.fnOf "_law_weights" "_law_weights" (defArgs s__law_weights) (defBody s__law_weights) (defScope s__law_weights) .none kV3 dc3 pm3 an3 cd3 ct3), sl3⟩) (c3 : PySem.W.codeIn K cd3 "_law_weights" = true) (k3 : PySem.W.keepIn K (.ref f3) = true)
    {f4 : Addr} {oc4 kV4 dc4 pm4 cd4 ct4 : Value} {od4 an4 : Option Addr} {sl4 : Array (Option Value)}
    (a4 : PySem.W.nsIn K mainGlobals "_law_made" = some (some (.ref f4))) (l4 : K.lookup f4 = some ⟨oc4, od4, .func (PySem.W.fnOf "_law_made" "_law_made" (defArgs s__law_made) (defBody s__law_made) (defScope s__law_made) .none kV4 dc4 pm4 an4 cd4 ct4), sl4⟩) (c4 : PySem.W.codeIn K cd4 "_law_made" = true) (k4 : PySem.W.keepIn K (.ref f4) = true)
    {f5 : Addr} {oc5 kV5 dc5 pm5 cd5 ct5 : Value} {od5 an5 : Option Addr} {sl5 : Array (Option Value)}
    (a5 : PySem.W.nsIn K mainGlobals "_law_cell" = some (some (.ref f5))) (l5 : K.lookup f5 = some ⟨oc5, od5, .func (PySem.W.fnOf "_law_cell" "_law_cell" (defArgs s__law_cell) (defBody s__law_cell) (defScope s__law_cell) .none kV5 dc5 pm5 an5 cd5 ct5), sl5⟩) (c5 : PySem.W.codeIn K cd5 "_law_cell" = true) (k5 : PySem.W.keepIn K (.ref f5) = true)
    {f6 : Addr} {oc6 kV6 dc6 pm6 cd6 ct6 : Value} {od6 an6 : Option Addr} {sl6 : Array (Option Value)}
    (a6 : PySem.W.nsIn K mainGlobals "_law_plus" = some (some (.ref f6))) (l6 : K.lookup f6 = some ⟨oc6, od6, .func (PySem.W.fnOf "_law_plus" "_law_plus" (defArgs s__law_plus) (defBody s__law_plus) (defScope s__law_plus) .none kV6 dc6 pm6 an6 cd6 ct6), sl6⟩) (c6 : PySem.W.codeIn K cd6 "_law_plus" = true) (k6 : PySem.W.keepIn K (.ref f6) = true)
    {f7 : Addr} {oc7 kV7 dc7 pm7 cd7 ct7 : Value} {od7 an7 : Option Addr} {sl7 : Array (Option Value)}
    (a7 : PySem.W.nsIn K mainGlobals "common" = some (some (.ref f7))) (l7 : K.lookup f7 = some ⟨oc7, od7, .func (PySem.W.fnOf "common" "common" (defArgs s_common) (defBody s_common) (defScope s_common) .none kV7 dc7 pm7 an7 cd7 ct7), sl7⟩) (c7 : PySem.W.codeIn K cd7 "common" = true) (k7 : PySem.W.keepIn K (.ref f7) = true)
    {f8 : Addr} {oc8 kV8 dc8 pm8 cd8 ct8 : Value} {od8 an8 : Option Addr} {sl8 : Array (Option Value)}
    (a8 : PySem.W.nsIn K mainGlobals "fraction" = some (some (.ref f8))) (l8 : K.lookup f8 = some ⟨oc8, od8, .func (PySem.W.fnOf "fraction" "fraction" (defArgs s_fraction) (defBody s_fraction) (defScope s_fraction) .none kV8 dc8 pm8 an8 cd8 ct8), sl8⟩) (c8 : PySem.W.codeIn K cd8 "fraction" = true) (k8 : PySem.W.keepIn K (.ref f8) = true)
    {f9 : Addr} {oc9 kV9 dc9 pm9 cd9 ct9 : Value} {od9 an9 : Option Addr} {sl9 : Array (Option Value)}
    (a9 : PySem.W.nsIn K mainGlobals "plus" = some (some (.ref f9))) (l9 : K.lookup f9 = some ⟨oc9, od9, .func (PySem.W.fnOf "plus" "plus" (defArgs s_plus) (defBody s_plus) (defScope s_plus) .none kV9 dc9 pm9 an9 cd9 ct9), sl9⟩) (c9 : PySem.W.codeIn K cd9 "plus" = true) (k9 : PySem.W.keepIn K (.ref f9) = true)
    {f10 : Addr} {oc10 kV10 dc10 pm10 cd10 ct10 : Value} {od10 an10 : Option Addr} {sl10 : Array (Option Value)}
    (a10 : PySem.W.nsIn K mainGlobals "total" = some (some (.ref f10))) (l10 : K.lookup f10 = some ⟨oc10, od10, .func (PySem.W.fnOf "total" "total" (defArgs s_total) (defBody s_total) (defScope s_total) .none kV10 dc10 pm10 an10 cd10 ct10), sl10⟩) (c10 : PySem.W.codeIn K cd10 "total" = true) (k10 : PySem.W.keepIn K (.ref f10) = true)
    {f11 : Addr} {oc11 kV11 dc11 pm11 cd11 ct11 : Value} {od11 an11 : Option Addr} {sl11 : Array (Option Value)}
    (a11 : PySem.W.nsIn K mainGlobals "is_fraction" = some (some (.ref f11))) (l11 : K.lookup f11 = some ⟨oc11, od11, .func (PySem.W.fnOf "is_fraction" "is_fraction" (defArgs s_is_fraction) (defBody s_is_fraction) (defScope s_is_fraction) .none kV11 dc11 pm11 an11 cd11 ct11), sl11⟩) (c11 : PySem.W.codeIn K cd11 "is_fraction" = true) (k11 : PySem.W.keepIn K (.ref f11) = true)
    {f12 : Addr} {oc12 kV12 dc12 pm12 cd12 ct12 : Value} {od12 an12 : Option Addr} {sl12 : Array (Option Value)}
    (a12 : PySem.W.nsIn K mainGlobals "is_row" = some (some (.ref f12))) (l12 : K.lookup f12 = some ⟨oc12, od12, .func (PySem.W.fnOf "is_row" "is_row" (defArgs s_is_row) (defBody s_is_row) (defScope s_is_row) .none kV12 dc12 pm12 an12 cd12 ct12), sl12⟩) (c12 : PySem.W.codeIn K cd12 "is_row" = true) (k12 : PySem.W.keepIn K (.ref f12) = true)
    {f13 : Addr} {oc13 kV13 dc13 pm13 cd13 ct13 : Value} {od13 an13 : Option Addr} {sl13 : Array (Option Value)}
    (a13 : PySem.W.nsIn K mainGlobals "need_table" = some (some (.ref f13))) (l13 : K.lookup f13 = some ⟨oc13, od13, .func (PySem.W.fnOf "need_table" "need_table" (defArgs s_need_table) (defBody s_need_table) (defScope s_need_table) .none kV13 dc13 pm13 an13 cd13 ct13), sl13⟩) (c13 : PySem.W.codeIn K cd13 "need_table" = true) (k13 : PySem.W.keepIn K (.ref f13) = true)
    {f14 : Addr} {oc14 kV14 dc14 pm14 cd14 ct14 : Value} {od14 an14 : Option Addr} {sl14 : Array (Option Value)}
    (a14 : PySem.W.nsIn K mainGlobals "need_plain" = some (some (.ref f14))) (l14 : K.lookup f14 = some ⟨oc14, od14, .func (PySem.W.fnOf "need_plain" "need_plain" (defArgs s_need_plain) (defBody s_need_plain) (defScope s_need_plain) .none kV14 dc14 pm14 an14 cd14 ct14), sl14⟩) (c14 : PySem.W.codeIn K cd14 "need_plain" = true) (k14 : PySem.W.keepIn K (.ref f14) = true)
    {f15 : Addr} {oc15 kV15 dc15 pm15 cd15 ct15 : Value} {od15 an15 : Option Addr} {sl15 : Array (Option Value)}
    (a15 : PySem.W.nsIn K mainGlobals "need_weights" = some (some (.ref f15))) (l15 : K.lookup f15 = some ⟨oc15, od15, .func (PySem.W.fnOf "need_weights" "need_weights" (defArgs s_need_weights) (defBody s_need_weights) (defScope s_need_weights) .none kV15 dc15 pm15 an15 cd15 ct15), sl15⟩) (c15 : PySem.W.codeIn K cd15 "need_weights" = true) (k15 : PySem.W.keepIn K (.ref f15) = true)
    {f16 : Addr} {oc16 kV16 dc16 pm16 cd16 ct16 : Value} {od16 an16 : Option Addr} {sl16 : Array (Option Value)}
    (a16 : PySem.W.nsIn K mainGlobals "places" = some (some (.ref f16))) (l16 : K.lookup f16 = some ⟨oc16, od16, .func (PySem.W.fnOf "places" "places" (defArgs s_places) (defBody s_places) (defScope s_places) .none kV16 dc16 pm16 an16 cd16 ct16), sl16⟩) (c16 : PySem.W.codeIn K cd16 "places" = true) (k16 : PySem.W.keepIn K (.ref f16) = true)
    {f17 : Addr} {oc17 kV17 dc17 pm17 cd17 ct17 : Value} {od17 an17 : Option Addr} {sl17 : Array (Option Value)}
    (a17 : PySem.W.nsIn K mainGlobals "classes" = some (some (.ref f17))) (l17 : K.lookup f17 = some ⟨oc17, od17, .func (PySem.W.fnOf "classes" "classes" (defArgs s_classes) (defBody s_classes) (defScope s_classes) .none kV17 dc17 pm17 an17 cd17 ct17), sl17⟩) (c17 : PySem.W.codeIn K cd17 "classes" = true) (k17 : PySem.W.keepIn K (.ref f17) = true)
    {f18 : Addr} {oc18 kV18 dc18 pm18 cd18 ct18 : Value} {od18 an18 : Option Addr} {sl18 : Array (Option Value)}
    (a18 : PySem.W.nsIn K mainGlobals "order_of" = some (some (.ref f18))) (l18 : K.lookup f18 = some ⟨oc18, od18, .func (PySem.W.fnOf "order_of" "order_of" (defArgs s_order_of) (defBody s_order_of) (defScope s_order_of) .none kV18 dc18 pm18 an18 cd18 ct18), sl18⟩) (c18 : PySem.W.codeIn K cd18 "order_of" = true) (k18 : PySem.W.keepIn K (.ref f18) = true)
    {f19 : Addr} {oc19 kV19 dc19 pm19 cd19 ct19 : Value} {od19 an19 : Option Addr} {sl19 : Array (Option Value)}
    (a19 : PySem.W.nsIn K mainGlobals "groups" = some (some (.ref f19))) (l19 : K.lookup f19 = some ⟨oc19, od19, .func (PySem.W.fnOf "groups" "groups" (defArgs s_groups) (defBody s_groups) (defScope s_groups) .none kV19 dc19 pm19 an19 cd19 ct19), sl19⟩) (c19 : PySem.W.codeIn K cd19 "groups" = true) (k19 : PySem.W.keepIn K (.ref f19) = true)
    {f20 : Addr} {oc20 kV20 dc20 pm20 cd20 ct20 : Value} {od20 an20 : Option Addr} {sl20 : Array (Option Value)}
    (a20 : PySem.W.nsIn K mainGlobals "_law_told" = some (some (.ref f20))) (l20 : K.lookup f20 = some ⟨oc20, od20, .func (PySem.W.fnOf "_law_told" "_law_told" (defArgs s__law_told) (defBody s__law_told) (defScope s__law_told) .none kV20 dc20 pm20 an20 cd20 ct20), sl20⟩) (c20 : PySem.W.codeIn K cd20 "_law_told" = true) (k20 : PySem.W.keepIn K (.ref f20) = true)
    {f21 : Addr} {oc21 kV21 dc21 pm21 cd21 ct21 : Value} {od21 an21 : Option Addr} {sl21 : Array (Option Value)}
    (a21 : PySem.W.nsIn K mainGlobals "_law_classes" = some (some (.ref f21))) (l21 : K.lookup f21 = some ⟨oc21, od21, .func (PySem.W.fnOf "_law_classes" "_law_classes" (defArgs s__law_classes) (defBody s__law_classes) (defScope s__law_classes) .none kV21 dc21 pm21 an21 cd21 ct21), sl21⟩) (c21 : PySem.W.codeIn K cd21 "_law_classes" = true) (k21 : PySem.W.keepIn K (.ref f21) = true)
    {f22 : Addr} {oc22 kV22 dc22 pm22 cd22 ct22 : Value} {od22 an22 : Option Addr} {sl22 : Array (Option Value)}
    (a22 : PySem.W.nsIn K mainGlobals "_law_most_groups" = some (some (.ref f22))) (l22 : K.lookup f22 = some ⟨oc22, od22, .func (PySem.W.fnOf "_law_most_groups" "_law_most_groups" (defArgs s__law_most_groups) (defBody s__law_most_groups) (defScope s__law_most_groups) .none kV22 dc22 pm22 an22 cd22 ct22), sl22⟩) (c22 : PySem.W.codeIn K cd22 "_law_most_groups" = true) (k22 : PySem.W.keepIn K (.ref f22) = true)
    {f23 : Addr} {oc23 kV23 dc23 pm23 cd23 ct23 : Value} {od23 an23 : Option Addr} {sl23 : Array (Option Value)}
    (a23 : PySem.W.nsIn K mainGlobals "group_of" = some (some (.ref f23))) (l23 : K.lookup f23 = some ⟨oc23, od23, .func (PySem.W.fnOf "group_of" "group_of" (defArgs s_group_of) (defBody s_group_of) (defScope s_group_of) .none kV23 dc23 pm23 an23 cd23 ct23), sl23⟩) (c23 : PySem.W.codeIn K cd23 "group_of" = true) (k23 : PySem.W.keepIn K (.ref f23) = true)
    {f24 : Addr} {oc24 kV24 dc24 pm24 cd24 ct24 : Value} {od24 an24 : Option Addr} {sl24 : Array (Option Value)}
    (a24 : PySem.W.nsIn K mainGlobals "grouped" = some (some (.ref f24))) (l24 : K.lookup f24 = some ⟨oc24, od24, .func (PySem.W.fnOf "grouped" "grouped" (defArgs s_grouped) (defBody s_grouped) (defScope s_grouped) .none kV24 dc24 pm24 an24 cd24 ct24), sl24⟩) (c24 : PySem.W.codeIn K cd24 "grouped" = true) (k24 : PySem.W.keepIn K (.ref f24) = true)
    {f25 : Addr} {oc25 kV25 dc25 pm25 cd25 ct25 : Value} {od25 an25 : Option Addr} {sl25 : Array (Option Value)}
    (a25 : PySem.W.nsIn K mainGlobals "_law_right" = some (some (.ref f25))) (l25 : K.lookup f25 = some ⟨oc25, od25, .func (PySem.W.fnOf "_law_right" "_law_right" (defArgs s__law_right) (defBody s__law_right) (defScope s__law_right) .none kV25 dc25 pm25 an25 cd25 ct25), sl25⟩) (c25 : PySem.W.codeIn K cd25 "_law_right" = true) (k25 : PySem.W.keepIn K (.ref f25) = true)
    {f26 : Addr} {oc26 kV26 dc26 pm26 cd26 ct26 : Value} {od26 an26 : Option Addr} {sl26 : Array (Option Value)}
    (a26 : PySem.W.nsIn K mainGlobals "law" = some (some (.ref f26))) (l26 : K.lookup f26 = some ⟨oc26, od26, .func (PySem.W.fnOf "law" "law" (defArgs s_law) (defBody s_law) (defScope s_law) .none kV26 dc26 pm26 an26 cd26 ct26), sl26⟩) (c26 : PySem.W.codeIn K cd26 "law" = true) (k26 : PySem.W.keepIn K (.ref f26) = true)
    (z_ValueError : PySem.W.nsIn K mainGlobals "ValueError" = some none)
    (z_abs : PySem.W.nsIn K mainGlobals "abs" = some none)
    (z_all : PySem.W.nsIn K mainGlobals "all" = some none)
    (z_bool : PySem.W.nsIn K mainGlobals "bool" = some none)
    (z_enumerate : PySem.W.nsIn K mainGlobals "enumerate" = some none)
    (z_int : PySem.W.nsIn K mainGlobals "int" = some none)
    (z_isinstance : PySem.W.nsIn K mainGlobals "isinstance" = some none)
    (z_len : PySem.W.nsIn K mainGlobals "len" = some none)
    (z_list : PySem.W.nsIn K mainGlobals "list" = some none)
    (z_max : PySem.W.nsIn K mainGlobals "max" = some none)
    (z_min : PySem.W.nsIn K mainGlobals "min" = some none)
    (z_range : PySem.W.nsIn K mainGlobals "range" = some none)
    (z_set : PySem.W.nsIn K mainGlobals "set" = some none)
    (z_sorted : PySem.W.nsIn K mainGlobals "sorted" = some none)
    (z_sum : PySem.W.nsIn K mainGlobals "sum" = some none)
    (z_tuple : PySem.W.nsIn K mainGlobals "tuple" = some none)
    (z_zip : PySem.W.nsIn K mainGlobals "zip" = some none)
    {A_NOUGHT : Addr} {n_NOUGHT : Nat} {u0_NOUGHT u1_NOUGHT : Tok} {sl_NOUGHT : Array (Option Value)} (q_NOUGHT : PySem.W.nsIn K mainGlobals "NOUGHT" = some (some (.ref A_NOUGHT))) (r_NOUGHT : K.lookup A_NOUGHT = some ⟨.type "tuple", none, .seq #[.int 0 u0_NOUGHT, .int 1 u1_NOUGHT] n_NOUGHT, sl_NOUGHT⟩)
    {A_ONE : Addr} {n_ONE : Nat} {u0_ONE u1_ONE : Tok} {sl_ONE : Array (Option Value)} (q_ONE : PySem.W.nsIn K mainGlobals "ONE" = some (some (.ref A_ONE))) (r_ONE : K.lookup A_ONE = some ⟨.type "tuple", none, .seq #[.int 1 u0_ONE, .int 1 u1_ONE] n_ONE, sl_ONE⟩)
    {C_TellError : Addr} (h_TellError : PySem.W.nsIn K mainGlobals "TellError" = some (some (.ref C_TellError)))
    {C_BadHouse : Addr} (h_BadHouse : PySem.W.nsIn K mainGlobals "BadHouse" = some (some (.ref C_BadHouse)))
    {C_BadProgram : Addr} (h_BadProgram : PySem.W.nsIn K mainGlobals "BadProgram" = some (some (.ref C_BadProgram)))
    {C_BadSight : Addr} (h_BadSight : PySem.W.nsIn K mainGlobals "BadSight" = some (some (.ref C_BadSight)))
    {C_BadTable : Addr} (h_BadTable : PySem.W.nsIn K mainGlobals "BadTable" = some (some (.ref C_BadTable)))
    {C_BadWeights : Addr} (h_BadWeights : PySem.W.nsIn K mainGlobals "BadWeights" = some (some (.ref C_BadWeights)))
    {C_NotPlain : Addr} (h_NotPlain : PySem.W.nsIn K mainGlobals "NotPlain" = some (some (.ref C_NotPlain)))
    {C_TooMany : Addr} (h_TooMany : PySem.W.nsIn K mainGlobals "TooMany" = some (some (.ref C_TooMany)))
    (xt_BadHouse : PySem.W.typeIn K (.ref C_BadHouse) = some (.type "type")) (yd_BadHouse : PySem.W.hasDictIn K C_BadHouse = true)
    (xt_BadProgram : PySem.W.typeIn K (.ref C_BadProgram) = some (.type "type")) (yd_BadProgram : PySem.W.hasDictIn K C_BadProgram = true)
    (xt_BadSight : PySem.W.typeIn K (.ref C_BadSight) = some (.type "type")) (yd_BadSight : PySem.W.hasDictIn K C_BadSight = true)
    (xt_BadTable : PySem.W.typeIn K (.ref C_BadTable) = some (.type "type")) (yd_BadTable : PySem.W.hasDictIn K C_BadTable = true)
    (xt_BadWeights : PySem.W.typeIn K (.ref C_BadWeights) = some (.type "type")) (yd_BadWeights : PySem.W.hasDictIn K C_BadWeights = true)
    (xt_NotPlain : PySem.W.typeIn K (.ref C_NotPlain) = some (.type "type")) (yd_NotPlain : PySem.W.hasDictIn K C_NotPlain = true)
    (xt_TellError : PySem.W.typeIn K (.ref C_TellError) = some (.type "type")) (yd_TellError : PySem.W.hasDictIn K C_TellError = true)
    (xt_TooMany : PySem.W.typeIn K (.ref C_TooMany) = some (.type "type")) (yd_TooMany : PySem.W.hasDictIn K C_TooMany = true)
    (xq_BadTable : PySem.W.excIn K C_BadTable veB "ValueError.__new__" = true) (xk_BadTable : PySem.W.keepIn K (.ref C_BadTable) = true) (xs_BadTable : PySem.W.subIn K (.ref C_BadTable) (.type "BaseException") = some true)
    (xq_BadWeights : PySem.W.excIn K C_BadWeights veB "ValueError.__new__" = true) (xk_BadWeights : PySem.W.keepIn K (.ref C_BadWeights) = true) (xs_BadWeights : PySem.W.subIn K (.ref C_BadWeights) (.type "BaseException") = some true)
    (xq_NotPlain : PySem.W.excIn K C_NotPlain veB "ValueError.__new__" = true) (xk_NotPlain : PySem.W.keepIn K (.ref C_NotPlain) = true) (xs_NotPlain : PySem.W.subIn K (.ref C_NotPlain) (.type "BaseException") = some true)
    (yn : PySem.W.specialIn K (.builtin "object.__class__") "__get__" = some (some (.builtin "getset_descriptor.__get__"))) (yt : PySem.W.takesIn K (.builtin "object.__class__") = some true)
    (yg_BadTable : PySem.W.findIn K (.ref C_BadTable) "__getattribute__" = some (some (.builtin "BaseException.__getattribute__"))) (yk_BadTable : PySem.W.findIn K (.ref C_BadTable) "__getattr__" = some none) (ya_BadTable : PySem.W.findIn K (.ref C_BadTable) "__class__" = some (some (.builtin "object.__class__"))) (ym_BadTable : PySem.W.mroIn K C_BadTable (.type "object") = some true)
    (yn_BadTable_BadHouse : (C_BadTable == C_BadHouse) = false) (yi_BadTable_BadHouse : PySem.W.subIn K (.ref C_BadTable) (.ref C_BadHouse) = some false)
    (yn_BadTable_BadProgram : (C_BadTable == C_BadProgram) = false) (yi_BadTable_BadProgram : PySem.W.subIn K (.ref C_BadTable) (.ref C_BadProgram) = some false)
    (yn_BadTable_BadSight : (C_BadTable == C_BadSight) = false) (yi_BadTable_BadSight : PySem.W.subIn K (.ref C_BadTable) (.ref C_BadSight) = some false)
    (yn_BadTable_BadWeights : (C_BadTable == C_BadWeights) = false) (yi_BadTable_BadWeights : PySem.W.subIn K (.ref C_BadTable) (.ref C_BadWeights) = some false)
    (yn_BadTable_NotPlain : (C_BadTable == C_NotPlain) = false) (yi_BadTable_NotPlain : PySem.W.subIn K (.ref C_BadTable) (.ref C_NotPlain) = some false)
    (yn_BadTable_TooMany : (C_BadTable == C_TooMany) = false) (yi_BadTable_TooMany : PySem.W.subIn K (.ref C_BadTable) (.ref C_TooMany) = some false)
    (yv_BadTable : PySem.W.subIn K (.ref C_BadTable) (.type "ValueError") = some true) (yx_BadTable : PySem.W.subIn K (.ref C_BadTable) (.ref C_TellError) = some true)
    (yg_BadWeights : PySem.W.findIn K (.ref C_BadWeights) "__getattribute__" = some (some (.builtin "BaseException.__getattribute__"))) (yk_BadWeights : PySem.W.findIn K (.ref C_BadWeights) "__getattr__" = some none) (ya_BadWeights : PySem.W.findIn K (.ref C_BadWeights) "__class__" = some (some (.builtin "object.__class__"))) (ym_BadWeights : PySem.W.mroIn K C_BadWeights (.type "object") = some true)
    (yn_BadWeights_BadHouse : (C_BadWeights == C_BadHouse) = false) (yi_BadWeights_BadHouse : PySem.W.subIn K (.ref C_BadWeights) (.ref C_BadHouse) = some false)
    (yn_BadWeights_BadProgram : (C_BadWeights == C_BadProgram) = false) (yi_BadWeights_BadProgram : PySem.W.subIn K (.ref C_BadWeights) (.ref C_BadProgram) = some false)
    (yn_BadWeights_BadSight : (C_BadWeights == C_BadSight) = false) (yi_BadWeights_BadSight : PySem.W.subIn K (.ref C_BadWeights) (.ref C_BadSight) = some false)
    (yn_BadWeights_BadTable : (C_BadWeights == C_BadTable) = false) (yi_BadWeights_BadTable : PySem.W.subIn K (.ref C_BadWeights) (.ref C_BadTable) = some false)
    (yn_BadWeights_NotPlain : (C_BadWeights == C_NotPlain) = false) (yi_BadWeights_NotPlain : PySem.W.subIn K (.ref C_BadWeights) (.ref C_NotPlain) = some false)
    (yn_BadWeights_TooMany : (C_BadWeights == C_TooMany) = false) (yi_BadWeights_TooMany : PySem.W.subIn K (.ref C_BadWeights) (.ref C_TooMany) = some false)
    (yv_BadWeights : PySem.W.subIn K (.ref C_BadWeights) (.type "ValueError") = some true) (yx_BadWeights : PySem.W.subIn K (.ref C_BadWeights) (.ref C_TellError) = some true)
    (yg_NotPlain : PySem.W.findIn K (.ref C_NotPlain) "__getattribute__" = some (some (.builtin "BaseException.__getattribute__"))) (yk_NotPlain : PySem.W.findIn K (.ref C_NotPlain) "__getattr__" = some none) (ya_NotPlain : PySem.W.findIn K (.ref C_NotPlain) "__class__" = some (some (.builtin "object.__class__"))) (ym_NotPlain : PySem.W.mroIn K C_NotPlain (.type "object") = some true)
    (yn_NotPlain_BadHouse : (C_NotPlain == C_BadHouse) = false) (yi_NotPlain_BadHouse : PySem.W.subIn K (.ref C_NotPlain) (.ref C_BadHouse) = some false)
    (yn_NotPlain_BadProgram : (C_NotPlain == C_BadProgram) = false) (yi_NotPlain_BadProgram : PySem.W.subIn K (.ref C_NotPlain) (.ref C_BadProgram) = some false)
    (yn_NotPlain_BadSight : (C_NotPlain == C_BadSight) = false) (yi_NotPlain_BadSight : PySem.W.subIn K (.ref C_NotPlain) (.ref C_BadSight) = some false)
    (yn_NotPlain_BadTable : (C_NotPlain == C_BadTable) = false) (yi_NotPlain_BadTable : PySem.W.subIn K (.ref C_NotPlain) (.ref C_BadTable) = some false)
    (yn_NotPlain_BadWeights : (C_NotPlain == C_BadWeights) = false) (yi_NotPlain_BadWeights : PySem.W.subIn K (.ref C_NotPlain) (.ref C_BadWeights) = some false)
    (yn_NotPlain_TooMany : (C_NotPlain == C_TooMany) = false) (yi_NotPlain_TooMany : PySem.W.subIn K (.ref C_NotPlain) (.ref C_TooMany) = some false)
    (yv_NotPlain : PySem.W.subIn K (.ref C_NotPlain) (.type "ValueError") = some true) (yx_NotPlain : PySem.W.subIn K (.ref C_NotPlain) (.ref C_TellError) = some true)
    (ytb : PySem.W.subIn K (.ref C_TellError) (.type "BaseException") = some true)
    {co18 Pt18 : Addr} (tt18 : h.get? Pt18 = some (({ cls := .none, data := .fields #[] } : PySem.Obj))) (tc18 : cd18 = .ref co18) (th18 : PySem.W.codeHdIn K co18 Pt18 = true) (tn18 : K.lookup Pt18 = none)
    (tl : tabs = [Pt18])
    : AtHead l w mg fa h 12 "script" g_law K := by
  have e := hfa.symm.trans (PySem.W.mg_of X G a26)
  cases e
  have T : Txt K mg (fun n => ([C_BadHouse, C_BadProgram, C_BadSight, C_BadTable, C_BadWeights, C_NotPlain, C_TooMany, 0, C_TellError] : List Addr).getD n 0) := ⟨PySem.W.mg_none_of X G z_ValueError, PySem.W.mg_none_of X G z_abs, PySem.W.mg_none_of X G z_all, PySem.W.mg_none_of X G z_bool, PySem.W.mg_none_of X G z_enumerate, PySem.W.mg_none_of X G z_int, PySem.W.mg_none_of X G z_isinstance, PySem.W.mg_none_of X G z_len, PySem.W.mg_none_of X G z_list, PySem.W.mg_none_of X G z_max, PySem.W.mg_none_of X G z_min, PySem.W.mg_none_of X G z_range, PySem.W.mg_none_of X G z_set, PySem.W.mg_none_of X G z_sorted, PySem.W.mg_none_of X G z_sum, PySem.W.mg_none_of X G z_tuple, PySem.W.mg_none_of X G z_zip, globD_tup (vs := [.int (0), .int (1)]) (PySem.W.mg_of X G q_NOUGHT) r_NOUGHT (show 2 ≤ sizeLine by decide) (.cons ⟨_, rfl⟩ (.cons ⟨_, rfl⟩ .nil)) (fun G => (.cons (.int _) (.cons (.int _) .nil))), globD_tup (vs := [.int (1), .int (1)]) (PySem.W.mg_of X G q_ONE) r_ONE (show 2 ≤ sizeLine by decide) (.cons ⟨_, rfl⟩ (.cons ⟨_, rfl⟩ .nil)) (fun G => (.cons (.int _) (.cons (.int _) .nil))), ⟨PySem.W.mg_of X G h_BadTable, xq_BadTable, xk_BadTable, xs_BadTable, xt_BadTable⟩, ⟨PySem.W.mg_of X G h_BadWeights, xq_BadWeights, xk_BadWeights, xs_BadWeights, xt_BadWeights⟩, ⟨PySem.W.mg_of X G h_NotPlain, xq_NotPlain, xk_NotPlain, xs_NotPlain, xt_NotPlain⟩, PySem.W.mg_of X G h_TellError, PySem.W.mg_of X G h_BadHouse, PySem.W.mg_of X G h_BadProgram, PySem.W.mg_of X G h_BadSight, PySem.W.mg_of X G h_BadTable, PySem.W.mg_of X G h_BadWeights, PySem.W.mg_of X G h_NotPlain, PySem.W.mg_of X G h_TooMany, ⟨yg_BadTable, yk_BadTable, xs_BadTable, yd_BadTable, ya_BadTable, yn, yt, ym_BadTable⟩, kit_other yn_BadTable_BadHouse yd_BadHouse xt_BadHouse yi_BadTable_BadHouse, kit_other yn_BadTable_BadProgram yd_BadProgram xt_BadProgram yi_BadTable_BadProgram, kit_other yn_BadTable_BadSight yd_BadSight xt_BadSight yi_BadTable_BadSight, kit_self, kit_other yn_BadTable_BadWeights yd_BadWeights xt_BadWeights yi_BadTable_BadWeights, kit_other yn_BadTable_NotPlain yd_NotPlain xt_NotPlain yi_BadTable_NotPlain, kit_other yn_BadTable_TooMany yd_TooMany xt_TooMany yi_BadTable_TooMany, kit_ve yv_BadTable, ⟨yg_BadWeights, yk_BadWeights, xs_BadWeights, yd_BadWeights, ya_BadWeights, yn, yt, ym_BadWeights⟩, kit_other yn_BadWeights_BadHouse yd_BadHouse xt_BadHouse yi_BadWeights_BadHouse, kit_other yn_BadWeights_BadProgram yd_BadProgram xt_BadProgram yi_BadWeights_BadProgram, kit_other yn_BadWeights_BadSight yd_BadSight xt_BadSight yi_BadWeights_BadSight, kit_other yn_BadWeights_BadTable yd_BadTable xt_BadTable yi_BadWeights_BadTable, kit_self, kit_other yn_BadWeights_NotPlain yd_NotPlain xt_NotPlain yi_BadWeights_NotPlain, kit_other yn_BadWeights_TooMany yd_TooMany xt_TooMany yi_BadWeights_TooMany, kit_ve yv_BadWeights, ⟨yg_NotPlain, yk_NotPlain, xs_NotPlain, yd_NotPlain, ya_NotPlain, yn, yt, ym_NotPlain⟩, kit_other yn_NotPlain_BadHouse yd_BadHouse xt_BadHouse yi_NotPlain_BadHouse, kit_other yn_NotPlain_BadProgram yd_BadProgram xt_BadProgram yi_NotPlain_BadProgram, kit_other yn_NotPlain_BadSight yd_BadSight xt_BadSight yi_NotPlain_BadSight, kit_other yn_NotPlain_BadTable yd_BadTable xt_BadTable yi_NotPlain_BadTable, kit_other yn_NotPlain_BadWeights yd_BadWeights xt_BadWeights yi_NotPlain_BadWeights, kit_self, kit_other yn_NotPlain_TooMany yd_TooMany xt_TooMany yi_NotPlain_TooMany, kit_ve yv_NotPlain, (by intro c z hw; unfold wdL at hw; (split at hw; (rename_i hc; subst hc; exact PySem.W.exm_ref ytb yd_TellError xt_TellError yx_BadTable)); (split at hw; (rename_i hc; subst hc; exact PySem.W.exm_ref ytb yd_TellError xt_TellError yx_BadWeights)); (split at hw; (rename_i hc; subst hc; exact PySem.W.exm_ref ytb yd_TellError xt_TellError yx_NotPlain)); cases hw)⟩
  have F0 := fun_mk (st := s__law_word) l0 c0 k0
  have b0 := F0.binds (ps := ["e"]) fun _ _ _ _ _ _ us hl => match us, hl with | [_], _ => rfl
  have F1 := fun_mk (st := s__law_drawn) l1 c1 k1
  have b1 := F1.binds (ps := ["cell", "k"]) fun _ _ _ _ _ _ us hl => match us, hl with | [_, _], _ => rfl
  have F2 := fun_mk (st := s__law_plain) l2 c2 k2
  have b2 := F2.binds (ps := ["more", "rows", "wide"]) fun _ _ _ _ _ _ us hl => match us, hl with | [_, _, _], _ => rfl
  have F3 := fun_mk (st := s__law_weights) l3 c3 k3
  have b3 := F3.binds (ps := ["more", "many"]) fun _ _ _ _ _ _ us hl => match us, hl with | [_, _], _ => rfl
  have F4 := fun_mk (st := s__law_made) l4 c4 k4
  have b4 := F4.binds (ps := ["top", "under"]) fun _ _ _ _ _ _ us hl => match us, hl with | [_, _], _ => rfl
  have F5 := fun_mk (st := s__law_cell) l5 c5 k5
  have b5 := F5.binds (ps := ["script", "k"]) fun _ _ _ _ _ _ us hl => match us, hl with | [_, _], _ => rfl
  have F6 := fun_mk (st := s__law_plus) l6 c6 k6
  have b6 := F6.binds (ps := ["one", "other"]) fun _ _ _ _ _ _ us hl => match us, hl with | [_, _], _ => rfl
  have F7 := fun_mk (st := s_common) l7 c7 k7
  have b7 := F7.binds (ps := ["one", "other"]) fun _ _ _ _ _ _ us hl => match us, hl with | [_, _], _ => rfl
  have F8 := fun_mk (st := s_fraction) l8 c8 k8
  have b8 := F8.binds (ps := ["top", "under"]) fun _ _ _ _ _ _ us hl => match us, hl with | [_, _], _ => rfl
  have F9 := fun_mk (st := s_plus) l9 c9 k9
  have b9 := F9.binds (ps := ["one", "other"]) fun _ _ _ _ _ _ us hl => match us, hl with | [_, _], _ => rfl
  have F10 := fun_mk (st := s_total) l10 c10 k10
  have b10 := F10.binds (ps := ["some"]) fun _ _ _ _ _ _ us hl => match us, hl with | [_], _ => rfl
  have F11 := fun_mk (st := s_is_fraction) l11 c11 k11
  have b11 := F11.binds (ps := ["thing"]) fun _ _ _ _ _ _ us hl => match us, hl with | [_], _ => rfl
  have F12 := fun_mk (st := s_is_row) l12 c12 k12
  have b12 := F12.binds (ps := ["row", "many"]) fun _ _ _ _ _ _ us hl => match us, hl with | [_, _], _ => rfl
  have F13 := fun_mk (st := s_need_table) l13 c13 k13
  have b13 := F13.binds (ps := ["thing"]) fun _ _ _ _ _ _ us hl => match us, hl with | [_], _ => rfl
  have F14 := fun_mk (st := s_need_plain) l14 c14 k14
  have b14 := F14.binds (ps := ["thing"]) fun _ _ _ _ _ _ us hl => match us, hl with | [_], _ => rfl
  have F15 := fun_mk (st := s_need_weights) l15 c15 k15
  have b15 := F15.binds (ps := ["weights", "many"]) fun _ _ _ _ _ _ us hl => match us, hl with | [_, _], _ => rfl
  have F16 := fun_mk (st := s_places) l16 c16 k16
  have b16 := F16.binds (ps := ["thing"]) fun _ _ _ _ _ _ us hl => match us, hl with | [_], _ => rfl
  have F17 := fun_mk (st := s_classes) l17 c17 k17
  have b17 := F17.binds (ps := ["thing"]) fun _ _ _ _ _ _ us hl => match us, hl with | [_], _ => rfl
  have F18 := fun_mk (st := s_order_of) l18 c18 k18
  have b18 := F18.binds (ps := ["heights"]) fun _ _ _ _ _ _ us hl => match us, hl with | [_], _ => rfl
  have F19 := fun_mk (st := s_groups) l19 c19 k19
  have b19 := F19.binds (ps := ["thing", "weights", "bound"]) fun _ _ _ _ _ _ us hl => match us, hl with | [_, _, _], _ => rfl
  have F20 := fun_mk (st := s__law_told) l20 c20 k20
  have b20 := F20.binds (ps := ["thing", "weights", "bound"]) fun _ _ _ _ _ _ us hl => match us, hl with | [_, _, _], _ => rfl
  have F21 := fun_mk (st := s__law_classes) l21 c21 k21
  have b21 := F21.binds (ps := ["thing"]) fun _ _ _ _ _ _ us hl => match us, hl with | [_], _ => rfl
  have F22 := fun_mk (st := s__law_most_groups) l22 c22 k22
  have b22 := F22.binds (ps := ["heights", "bound", "whole"]) fun _ _ _ _ _ _ us hl => match us, hl with | [_, _, _], _ => rfl
  have F23 := fun_mk (st := s_group_of) l23 c23 k23
  have b23 := F23.binds (ps := ["thing", "found"]) fun _ _ _ _ _ _ us hl => match us, hl with | [_, _], _ => rfl
  have F24 := fun_mk (st := s_grouped) l24 c24 k24
  have b24 := F24.binds (ps := ["thing", "found"]) fun _ _ _ _ _ _ us hl => match us, hl with | [_, _], _ => rfl
  have F25 := fun_mk (st := s__law_right) l25 c25 k25
  have b25 := F25.binds (ps := ["thing", "weights", "bound"]) fun _ _ _ _ _ _ us hl => match us, hl with | [_, _, _], _ => rfl
  have F26 := fun_mk (st := s_law) l26 c26 k26
  have b26 := F26.binds (ps := ["script"]) fun _ _ _ _ _ _ us hl => match us, hl with | [_], _ => rfl
  refine ⟨(fun n => ([C_BadHouse, C_BadProgram, C_BadSight, C_BadTable, C_BadWeights, C_NotPlain, C_TooMany, 0, C_TellError] : List Addr).getD n 0), PySem.W.fnOf "law" "law" (defArgs s_law) (defBody s_law) (defScope s_law) .none kV26 dc26 pm26 an26 cd26 ct26, [(co18, Pt18)], fun p hp => (by rw [List.mem_singleton] at hp; subst hp; exact tt18), fun p hp => (by rw [List.mem_singleton] at hp; subst hp; exact tn18), fun p hp => (by rw [List.mem_singleton] at hp; subst hp; exact PySem.W.codeHd_of_K X th18), fun P hP => by rw [tl] at hP; simpa [eq_comm] using hP, fun s v => .of_eq rfl, fun base _ _ TBs => ?_⟩
  subst tc18
  have C__law_word : CalW l.prog w K mg base (fun n => ([C_BadHouse, C_BadProgram, C_BadSight, C_BadTable, C_BadWeights, C_NotPlain, C_TooMany, 0, C_TellError] : List Addr).getD n 0) "_law_word" 1 wdL := ⟨_, _, _, ok__law_word F0 T, (PySem.W.mg_of X G a0), k0, b0⟩
  have C__law_drawn : Cal l.prog w K mg base (fun n => ([C_BadHouse, C_BadProgram, C_BadSight, C_BadTable, C_BadWeights, C_NotPlain, C_TooMany, 0, C_TellError] : List Addr).getD n 0) "_law_drawn" 2 1 g__law_drawn := cal_of F1 (PySem.W.mg_of X G a1) b1 (ok__law_drawn F1 T )
  have C__law_plain : Cal l.prog w K mg base (fun n => ([C_BadHouse, C_BadProgram, C_BadSight, C_BadTable, C_BadWeights, C_NotPlain, C_TooMany, 0, C_TellError] : List Addr).getD n 0) "_law_plain" 3 2 g__law_plain := cal_of F2 (PySem.W.mg_of X G a2) b2 (ok__law_plain F2 T C__law_drawn)
  have C__law_weights : Cal l.prog w K mg base (fun n => ([C_BadHouse, C_BadProgram, C_BadSight, C_BadTable, C_BadWeights, C_NotPlain, C_TooMany, 0, C_TellError] : List Addr).getD n 0) "_law_weights" 2 2 g__law_weights := cal_of F3 (PySem.W.mg_of X G a3) b3 (ok__law_weights F3 T C__law_drawn)
  have C__law_made : Cal l.prog w K mg base (fun n => ([C_BadHouse, C_BadProgram, C_BadSight, C_BadTable, C_BadWeights, C_NotPlain, C_TooMany, 0, C_TellError] : List Addr).getD n 0) "_law_made" 2 1 g__law_made := cal_of F4 (PySem.W.mg_of X G a4) b4 (ok__law_made F4 T )
  have C__law_cell : Cal l.prog w K mg base (fun n => ([C_BadHouse, C_BadProgram, C_BadSight, C_BadTable, C_BadWeights, C_NotPlain, C_TooMany, 0, C_TellError] : List Addr).getD n 0) "_law_cell" 2 1 g__law_cell := cal_of F5 (PySem.W.mg_of X G a5) b5 (ok__law_cell F5 T )
  have C__law_plus : Cal l.prog w K mg base (fun n => ([C_BadHouse, C_BadProgram, C_BadSight, C_BadTable, C_BadWeights, C_NotPlain, C_TooMany, 0, C_TellError] : List Addr).getD n 0) "_law_plus" 2 2 g__law_plus := cal_of F6 (PySem.W.mg_of X G a6) b6 (ok__law_plus F6 T C__law_made)
  have C_common : Cal l.prog w K mg base (fun n => ([C_BadHouse, C_BadProgram, C_BadSight, C_BadTable, C_BadWeights, C_NotPlain, C_TooMany, 0, C_TellError] : List Addr).getD n 0) "common" 2 1 g_common := cal_of F7 (PySem.W.mg_of X G a7) b7 (ok_common F7 T )
  have C_fraction : Cal l.prog w K mg base (fun n => ([C_BadHouse, C_BadProgram, C_BadSight, C_BadTable, C_BadWeights, C_NotPlain, C_TooMany, 0, C_TellError] : List Addr).getD n 0) "fraction" 2 2 g_fraction := cal_of F8 (PySem.W.mg_of X G a8) b8 (ok_fraction F8 T C_common)
  have C_plus : Cal l.prog w K mg base (fun n => ([C_BadHouse, C_BadProgram, C_BadSight, C_BadTable, C_BadWeights, C_NotPlain, C_TooMany, 0, C_TellError] : List Addr).getD n 0) "plus" 2 3 g_plus := cal_of F9 (PySem.W.mg_of X G a9) b9 (ok_plus F9 T C_fraction)
  have C_total : Cal l.prog w K mg base (fun n => ([C_BadHouse, C_BadProgram, C_BadSight, C_BadTable, C_BadWeights, C_NotPlain, C_TooMany, 0, C_TellError] : List Addr).getD n 0) "total" 1 4 g_total := cal_of F10 (PySem.W.mg_of X G a10) b10 (ok_total F10 T C_plus)
  have C_is_fraction : Cal l.prog w K mg base (fun n => ([C_BadHouse, C_BadProgram, C_BadSight, C_BadTable, C_BadWeights, C_NotPlain, C_TooMany, 0, C_TellError] : List Addr).getD n 0) "is_fraction" 1 2 g_is_fraction := cal_of F11 (PySem.W.mg_of X G a11) b11 (ok_is_fraction F11 T C_common)
  have C_is_row : Cal l.prog w K mg base (fun n => ([C_BadHouse, C_BadProgram, C_BadSight, C_BadTable, C_BadWeights, C_NotPlain, C_TooMany, 0, C_TellError] : List Addr).getD n 0) "is_row" 2 5 g_is_row := cal_of F12 (PySem.W.mg_of X G a12) b12 (ok_is_row F12 T C_is_fraction C_total)
  have C_need_table : Cal l.prog w K mg base (fun n => ([C_BadHouse, C_BadProgram, C_BadSight, C_BadTable, C_BadWeights, C_NotPlain, C_TooMany, 0, C_TellError] : List Addr).getD n 0) "need_table" 1 6 g_need_table := cal_of F13 (PySem.W.mg_of X G a13) b13 (ok_need_table F13 T C_is_row)
  have C_need_plain : Cal l.prog w K mg base (fun n => ([C_BadHouse, C_BadProgram, C_BadSight, C_BadTable, C_BadWeights, C_NotPlain, C_TooMany, 0, C_TellError] : List Addr).getD n 0) "need_plain" 1 7 g_need_plain := cal_of F14 (PySem.W.mg_of X G a14) b14 (ok_need_plain F14 T C_need_table)
  have C_need_weights : Cal l.prog w K mg base (fun n => ([C_BadHouse, C_BadProgram, C_BadSight, C_BadTable, C_BadWeights, C_NotPlain, C_TooMany, 0, C_TellError] : List Addr).getD n 0) "need_weights" 2 1 g_need_weights := cal_of F15 (PySem.W.mg_of X G a15) b15 (ok_need_weights F15 T )
  have C_places : Cal l.prog w K mg base (fun n => ([C_BadHouse, C_BadProgram, C_BadSight, C_BadTable, C_BadWeights, C_NotPlain, C_TooMany, 0, C_TellError] : List Addr).getD n 0) "places" 1 1 g_places := cal_of F16 (PySem.W.mg_of X G a16) b16 (ok_places F16 T )
  have CF_classes : CalF l.prog w K mg base (fun n => ([C_BadHouse, C_BadProgram, C_BadSight, C_BadTable, C_BadWeights, C_NotPlain, C_TooMany, 0, C_TellError] : List Addr).getD n 0) "classes" 1 8 g_classes := calF_of F17 (PySem.W.mg_of X G a17) b17 (ok_classes F17 T C_need_plain C_places)
  have C_classes := CF_classes.cal
  have C_order_of : Cal l.prog w K mg base (fun n => ([C_BadHouse, C_BadProgram, C_BadSight, C_BadTable, C_BadWeights, C_NotPlain, C_TooMany, 0, C_TellError] : List Addr).getD n 0) "order_of" 1 1 g_order_of := cal_of F18 (PySem.W.mg_of X G a18) b18 (ok_order_of F18 T  (TBs (co18, Pt18) (by simp)) rfl (by rw [tl]; simp))
  have C_groups : Cal l.prog w K mg base (fun n => ([C_BadHouse, C_BadProgram, C_BadSight, C_BadTable, C_BadWeights, C_NotPlain, C_TooMany, 0, C_TellError] : List Addr).getD n 0) "groups" 3 9 g_groups := cal_of F19 (PySem.W.mg_of X G a19) b19 (ok_groups F19 T C_classes C_need_plain C_need_weights C_order_of)
  have C__law_told : Cal l.prog w K mg base (fun n => ([C_BadHouse, C_BadProgram, C_BadSight, C_BadTable, C_BadWeights, C_NotPlain, C_TooMany, 0, C_TellError] : List Addr).getD n 0) "_law_told" 3 10 g__law_told := cal_of F20 (PySem.W.mg_of X G a20) b20 (ok__law_told F20 T C__law_word C_groups)
  have C__law_classes : Cal l.prog w K mg base (fun n => ([C_BadHouse, C_BadProgram, C_BadSight, C_BadTable, C_BadWeights, C_NotPlain, C_TooMany, 0, C_TellError] : List Addr).getD n 0) "_law_classes" 1 1 g__law_classes := cal_of F21 (PySem.W.mg_of X G a21) b21 (ok__law_classes F21 T )
  have C__law_most_groups : Cal l.prog w K mg base (fun n => ([C_BadHouse, C_BadProgram, C_BadSight, C_BadTable, C_BadWeights, C_NotPlain, C_TooMany, 0, C_TellError] : List Addr).getD n 0) "_law_most_groups" 3 1 g__law_most_groups := cal_of F22 (PySem.W.mg_of X G a22) b22 (ok__law_most_groups F22 T )
  have C_group_of : Cal l.prog w K mg base (fun n => ([C_BadHouse, C_BadProgram, C_BadSight, C_BadTable, C_BadWeights, C_NotPlain, C_TooMany, 0, C_TellError] : List Addr).getD n 0) "group_of" 2 9 g_group_of := cal_of F23 (PySem.W.mg_of X G a23) b23 (ok_group_of F23 T C_classes)
  have C_grouped : Cal l.prog w K mg base (fun n => ([C_BadHouse, C_BadProgram, C_BadSight, C_BadTable, C_BadWeights, C_NotPlain, C_TooMany, 0, C_TellError] : List Addr).getD n 0) "grouped" 2 10 g_grouped := cal_of F24 (PySem.W.mg_of X G a24) b24 (ok_grouped F24 T C_group_of C_need_plain)
  have C__law_right : Cal l.prog w K mg base (fun n => ([C_BadHouse, C_BadProgram, C_BadSight, C_BadTable, C_BadWeights, C_NotPlain, C_TooMany, 0, C_TellError] : List Addr).getD n 0) "_law_right" 3 11 g__law_right := cal_of F25 (PySem.W.mg_of X G a25) b25 (ok__law_right F25 T C__law_classes C__law_most_groups C__law_told C_grouped)
  exact ok_law F26 T C__law_cell C__law_drawn C__law_made C__law_plain C__law_plus C__law_right C__law_told C__law_weights
end My
open PySem PySem.W PyProof.Rows
set_option maxRecDepth 100000 in
set_option maxHeartbeats 0 in
theorem PySem.Challenge.cw_tellweight_k70_groups_holds : PySem.Challenge.rw_tellweight_k70_groups.Holds := by
  w_on; o_law; k_head; (case hw => w_witness2)
  k_fill
  refine PL.walk_D (l := PySem.Challenge.rw_tellweight_k70_groups) (n := 63) (k := 12) (x := "script") (g := My.g_law) rfl (by decide) rfl ⟨rfl, by decide, by decide⟩ ?F My.law_true
  case F =>
    intro w mg fa h Y G hmg
    have KX := PySem.W.km_in_of Y
    have hT8 := PySem.W.km_tabs_of Y
    refine ⟨_, KX, ?_⟩
    refine' My.all_mk KX G hmg ?a0 ?l0 ?c0 ?k0 ?a1 ?l1 ?c1 ?k1 ?a2 ?l2 ?c2 ?k2 ?a3 ?l3 ?c3 ?k3 ?a4 ?l4 ?c4 ?k4 ?a5 ?l5 ?c5 ?k5 ?a6 ?l6 ?c6 ?k6 ?a7 ?l7 ?c7 ?k7 ?a8 ?l8 ?c8 ?k8 ?a9 ?l9 ?c9 ?k9 ?a10 ?l10 ?c10 ?k10 ?a11 ?l11 ?c11 ?k11 ?a12 ?l12 ?c12 ?k12 ?a13 ?l13 ?c13 ?k13 ?a14 ?l14 ?c14 ?k14 ?a15 ?l15 ?c15 ?k15 ?a16 ?l16 ?c16 ?k16 ?a17 ?l17 ?c17 ?k17 ?a18 ?l18 ?c18 ?k18 ?a19 ?l19 ?c19 ?k19 ?a20 ?l20 ?c20 ?k20 ?a21 ?l21 ?c21 ?k21 ?a22 ?l22 ?c22 ?k22 ?a23 ?l23 ?c23 ?k23 ?a24 ?l24 ?c24 ?k24 ?a25 ?l25 ?c25 ?k25 ?a26 ?l26 ?c26 ?k26 ?z_ValueError ?z_abs ?z_all ?z_bool ?z_enumerate ?z_int ?z_isinstance ?z_len ?z_list ?z_max ?z_min ?z_range ?z_set ?z_sorted ?z_sum ?z_tuple ?z_zip ?q_NOUGHT ?r_NOUGHT ?q_ONE ?r_ONE ?h_TellError ?h_BadHouse ?h_BadProgram ?h_BadSight ?h_BadTable ?h_BadWeights ?h_NotPlain ?h_TooMany ?xt_BadHouse ?yd_BadHouse ?xt_BadProgram ?yd_BadProgram ?xt_BadSight ?yd_BadSight ?xt_BadTable ?yd_BadTable ?xt_BadWeights ?yd_BadWeights ?xt_NotPlain ?yd_NotPlain ?xt_TellError ?yd_TellError ?xt_TooMany ?yd_TooMany ?xq_BadTable ?xk_BadTable ?xs_BadTable ?xq_BadWeights ?xk_BadWeights ?xs_BadWeights ?xq_NotPlain ?xk_NotPlain ?xs_NotPlain ?yn ?yt ?yg_BadTable ?yk_BadTable ?ya_BadTable ?ym_BadTable ?yn_BadTable_BadHouse ?yi_BadTable_BadHouse ?yn_BadTable_BadProgram ?yi_BadTable_BadProgram ?yn_BadTable_BadSight ?yi_BadTable_BadSight ?yn_BadTable_BadWeights ?yi_BadTable_BadWeights ?yn_BadTable_NotPlain ?yi_BadTable_NotPlain ?yn_BadTable_TooMany ?yi_BadTable_TooMany ?yv_BadTable ?yx_BadTable ?yg_BadWeights ?yk_BadWeights ?ya_BadWeights ?ym_BadWeights ?yn_BadWeights_BadHouse ?yi_BadWeights_BadHouse ?yn_BadWeights_BadProgram ?yi_BadWeights_BadProgram ?yn_BadWeights_BadSight ?yi_BadWeights_BadSight ?yn_BadWeights_BadTable ?yi_BadWeights_BadTable ?yn_BadWeights_NotPlain ?yi_BadWeights_NotPlain ?yn_BadWeights_TooMany ?yi_BadWeights_TooMany ?yv_BadWeights ?yx_BadWeights ?yg_NotPlain ?yk_NotPlain ?ya_NotPlain ?ym_NotPlain ?yn_NotPlain_BadHouse ?yi_NotPlain_BadHouse ?yn_NotPlain_BadProgram ?yi_NotPlain_BadProgram ?yn_NotPlain_BadSight ?yi_NotPlain_BadSight ?yn_NotPlain_BadTable ?yi_NotPlain_BadTable ?yn_NotPlain_BadWeights ?yi_NotPlain_BadWeights ?yn_NotPlain_TooMany ?yi_NotPlain_TooMany ?yv_NotPlain ?yx_NotPlain ?ytb ?tt18 ?tc18 ?th18 ?tn18 ?tl
    (case a0 => k_is)
    (case l0 => k_is)
    (case c0 => k_is)
    (case k0 => k_is)
    (case a1 => k_is)
    (case l1 => k_is)
    (case c1 => k_is)
    (case k1 => k_is)
    (case a2 => k_is)
    (case l2 => k_is)
    (case c2 => k_is)
    (case k2 => k_is)
    (case a3 => k_is)
    (case l3 => k_is)
    (case c3 => k_is)
    (case k3 => k_is)
    (case a4 => k_is)
    (case l4 => k_is)
    (case c4 => k_is)
    (case k4 => k_is)
    (case a5 => k_is)
    (case l5 => k_is)
    (case c5 => k_is)
    (case k5 => k_is)
    (case a6 => k_is)
    (case l6 => k_is)
    (case c6 => k_is)
    (case k6 => k_is)
    (case a7 => k_is)
    (case l7 => k_is)
    (case c7 => k_is)
    (case k7 => k_is)
    (case a8 => k_is)
    (case l8 => k_is)
    (case c8 => k_is)
    (case k8 => k_is)
    (case a9 => k_is)
    (case l9 => k_is)
    (case c9 => k_is)
    (case k9 => k_is)
    (case a10 => k_is)
    (case l10 => k_is)
    (case c10 => k_is)
    (case k10 => k_is)
    (case a11 => k_is)
    (case l11 => k_is)
    (case c11 => k_is)
    (case k11 => k_is)
    (case a12 => k_is)
    (case l12 => k_is)
    (case c12 => k_is)
    (case k12 => k_is)
    (case a13 => k_is)
    (case l13 => k_is)
    (case c13 => k_is)
    (case k13 => k_is)
    (case a14 => k_is)
    (case l14 => k_is)
    (case c14 => k_is)
    (case k14 => k_is)
    (case a15 => k_is)
    (case l15 => k_is)
    (case c15 => k_is)
    (case k15 => k_is)
    (case a16 => k_is)
    (case l16 => k_is)
    (case c16 => k_is)
    (case k16 => k_is)
    (case a17 => k_is)
    (case l17 => k_is)
    (case c17 => k_is)
    (case k17 => k_is)
    (case a18 => k_is)
    (case l18 => k_is)
    (case c18 => k_is)
    (case k18 => k_is)
    (case a19 => k_is)
    (case l19 => k_is)
    (case c19 => k_is)
    (case k19 => k_is)
    (case a20 => k_is)
    (case l20 => k_is)
    (case c20 => k_is)
    (case k20 => k_is)
    (case a21 => k_is)
    (case l21 => k_is)
    (case c21 => k_is)
    (case k21 => k_is)
    (case a22 => k_is)
    (case l22 => k_is)
    (case c22 => k_is)
    (case k22 => k_is)
    (case a23 => k_is)
    (case l23 => k_is)
    (case c23 => k_is)
    (case k23 => k_is)
    (case a24 => k_is)
    (case l24 => k_is)
    (case c24 => k_is)
    (case k24 => k_is)
    (case a25 => k_is)
    (case l25 => k_is)
    (case c25 => k_is)
    (case k25 => k_is)
    (case a26 => k_is)
    (case l26 => k_is)
    (case c26 => k_is)
    (case k26 => k_is)
    (case z_ValueError => k_is)
    (case z_abs => k_is)
    (case z_all => k_is)
    (case z_bool => k_is)
    (case z_enumerate => k_is)
    (case z_int => k_is)
    (case z_isinstance => k_is)
    (case z_len => k_is)
    (case z_list => k_is)
    (case z_max => k_is)
    (case z_min => k_is)
    (case z_range => k_is)
    (case z_set => k_is)
    (case z_sorted => k_is)
    (case z_sum => k_is)
    (case z_tuple => k_is)
    (case z_zip => k_is)
    (case q_NOUGHT => k_is)
    (case r_NOUGHT => k_is)
    (case q_ONE => k_is)
    (case r_ONE => k_is)
    (case h_TellError => k_is)
    (case h_BadHouse => k_is)
    (case h_BadProgram => k_is)
    (case h_BadSight => k_is)
    (case h_BadTable => k_is)
    (case h_BadWeights => k_is)
    (case h_NotPlain => k_is)
    (case h_TooMany => k_is)
    (case xt_BadHouse => k_is)
    (case yd_BadHouse => k_is)
    (case xt_BadProgram => k_is)
    (case yd_BadProgram => k_is)
    (case xt_BadSight => k_is)
    (case yd_BadSight => k_is)
    (case xt_BadTable => k_is)
    (case yd_BadTable => k_is)
    (case xt_BadWeights => k_is)
    (case yd_BadWeights => k_is)
    (case xt_NotPlain => k_is)
    (case yd_NotPlain => k_is)
    (case xt_TellError => k_is)
    (case yd_TellError => k_is)
    (case xt_TooMany => k_is)
    (case yd_TooMany => k_is)
    (case xq_BadTable => k_exc)
    (case xk_BadTable => k_is)
    (case xs_BadTable => k_is)
    (case xq_BadWeights => k_exc)
    (case xk_BadWeights => k_is)
    (case xs_BadWeights => k_is)
    (case xq_NotPlain => k_exc)
    (case xk_NotPlain => k_is)
    (case xs_NotPlain => k_is)
    (case yn => k_is)
    (case yt => k_is)
    (case yg_BadTable => k_is)
    (case yk_BadTable => k_is)
    (case ya_BadTable => k_is)
    (case ym_BadTable => k_is)
    (case yn_BadTable_BadHouse => decide)
    (case yi_BadTable_BadHouse => k_is)
    (case yn_BadTable_BadProgram => decide)
    (case yi_BadTable_BadProgram => k_is)
    (case yn_BadTable_BadSight => decide)
    (case yi_BadTable_BadSight => k_is)
    (case yn_BadTable_BadWeights => decide)
    (case yi_BadTable_BadWeights => k_is)
    (case yn_BadTable_NotPlain => decide)
    (case yi_BadTable_NotPlain => k_is)
    (case yn_BadTable_TooMany => decide)
    (case yi_BadTable_TooMany => k_is)
    (case yv_BadTable => k_is)
    (case yx_BadTable => k_is)
    (case yg_BadWeights => k_is)
    (case yk_BadWeights => k_is)
    (case ya_BadWeights => k_is)
    (case ym_BadWeights => k_is)
    (case yn_BadWeights_BadHouse => decide)
    (case yi_BadWeights_BadHouse => k_is)
    (case yn_BadWeights_BadProgram => decide)
    (case yi_BadWeights_BadProgram => k_is)
    (case yn_BadWeights_BadSight => decide)
    (case yi_BadWeights_BadSight => k_is)
    (case yn_BadWeights_BadTable => decide)
    (case yi_BadWeights_BadTable => k_is)
    (case yn_BadWeights_NotPlain => decide)
    (case yi_BadWeights_NotPlain => k_is)
    (case yn_BadWeights_TooMany => decide)
    (case yi_BadWeights_TooMany => k_is)
    (case yv_BadWeights => k_is)
    (case yx_BadWeights => k_is)
    (case yg_NotPlain => k_is)
    (case yk_NotPlain => k_is)
    (case ya_NotPlain => k_is)
    (case ym_NotPlain => k_is)
    (case yn_NotPlain_BadHouse => decide)
    (case yi_NotPlain_BadHouse => k_is)
    (case yn_NotPlain_BadProgram => decide)
    (case yi_NotPlain_BadProgram => k_is)
    (case yn_NotPlain_BadSight => decide)
    (case yi_NotPlain_BadSight => k_is)
    (case yn_NotPlain_BadTable => decide)
    (case yi_NotPlain_BadTable => k_is)
    (case yn_NotPlain_BadWeights => decide)
    (case yi_NotPlain_BadWeights => k_is)
    (case yn_NotPlain_TooMany => decide)
    (case yi_NotPlain_TooMany => k_is)
    (case yv_NotPlain => k_is)
    (case yx_NotPlain => k_is)
    (case ytb => k_is)
    (case tt18 => exact hT8 _ (by first | exact List.mem_cons_self | exact List.mem_cons_of_mem _ List.mem_cons_self))
    (case tc18 => rfl)
    (case th18 => kernel_rfl)
    (case tn18 => kernel_rfl)
    (case tl => exact PL.shut_eq _)
#print axioms PySem.Challenge.cw_tellweight_k70_groups_holds
