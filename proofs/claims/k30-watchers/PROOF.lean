import PyProof.Rows.All
import Wide.All
import OpenK.AllK
import Wide.FinOn
import HandS.ForMost
import HandS.ForExc
import HandS.Walk
import HandS.Wide
import HandS.IsInst
import HandS.Deep
import HandS.Zip
import HandS.TupAny
import HandS.TupMul
import HandS.Style
import HandS.ExcCtx
import HandS.HotCalls
import HandS.ExcIs
import HandS.ExcOwn
import HandS.WordsExc
import HandS.DictComp
import PySem.Challenge.RW_tellweight_k30_watchers
set_option Elab.async false
set_option linter.all false
set_option maxRecDepth 100000
set_option maxHeartbeats 4000000
/-! PL, part a: data over the hand layer. A value of the heap stands for a datum; an expression is a function from a list of data to a datum. -/
namespace PL
open PySem L2

/-- a reckoning: a datum, an error of the class number c, or nothing is said -/
inductive R (α : Type) where
  | ok (a : α)
  | ex (c : Nat)
  | no
namespace R
def bind {α β : Type} : R α → (α → R β) → R β
  | .ok a, k => k a
  | .ex c, _ => .ex c
  | .no, _ => .no
@[simp] theorem bind_ok {α β : Type} (a : α) (k : α → R β) : (R.ok a).bind k = k a := rfl
@[simp] theorem bind_ex {α β : Type} (c : Nat) (k : α → R β) : (R.ex c : R α).bind k = .ex c := rfl
@[simp] theorem bind_no {α β : Type} (k : α → R β) : (R.no : R α).bind k = .no := rfl
end R

def kD : Key → PyData
  | .inl i => .int i
  | .inr x => .str x
/-- a list that is read: tracked, or a plain one of the written part -/
def LsL (K : PySem.W.Frag) (G : Hp) (a : Addr) (xs : List V) : Prop :=
  Rd G a (.lst xs) ∨ ∃ (its : List Value) (n : Nat), K.lookup a = some { cls := .type "list", data := .seq its.toArray n } ∧ its.length ≤ sizeLine ∧ Vals xs its
theorem LsL.sq {K : PySem.W.Frag} {G : Hp} {a : Addr} {xs : List V} (h : LsL K G a xs) : SqL K G a xs := by
  rcases h with h | ⟨its, n, h1, h2, h3⟩
  · exact .inl h
  · exact .inr ⟨_, its.toArray, n, h1, rfl, rfl, rfl, by rw [List.size_toArray]; exact h2, by simpa using h3⟩
theorem LsL.of {K : PySem.W.Frag} {G : Hp} {a : Addr} {xs : List V} (h : G a = some (.lst xs)) : LsL K G a xs := .inl (.inl h)
mutual
/-- the value stands for the datum, in the heap G -/
inductive Rep (K : PySem.W.Frag) (G : Hp) : V → PyData → Prop
  | non : Rep K G .non .none
  | bl (b : Bool) : Rep K G (.bl b) (.bool b)
  | int (i : Int) : Rep K G (.int i) (.int i)
  | str (x : Str) : Rep K G (.str x) (.str x)
  | lst {a : Addr} {xs : List V} {ds : List PyData} : LsL K G a xs → RepA K G xs ds → Rep K G (.ref a) (.list ds)
  | tup {a : Addr} {xs : List V} {ds : List PyData} : SqT K G a xs → RepA K G xs ds → Rep K G (.ref a) (.tuple ds)
  | dct {a : Addr} {kvs : List (Key × V)} {ds : List (PyData × PyData)} : G a = some (.dK kvs) → (kvs.map (·.1)).Nodup → RepK K G kvs ds → Rep K G (.ref a) (.dict ds)
inductive RepA (K : PySem.W.Frag) (G : Hp) : List V → List PyData → Prop
  | nil : RepA K G [] []
  | cons {v : V} {vs : List V} {d : PyData} {ds : List PyData} : Rep K G v d → RepA K G vs ds → RepA K G (v :: vs) (d :: ds)
inductive RepK (K : PySem.W.Frag) (G : Hp) : List (Key × V) → List (PyData × PyData) → Prop
  | nil : RepK K G [] []
  | cons {k : Key} {v : V} {kvs : List (Key × V)} {d : PyData} {ds : List (PyData × PyData)} : Rep K G v d → RepK K G kvs ds → RepK K G ((k, v) :: kvs) ((kD k, d) :: ds)
end

theorem rd_same {G G' : Hp} (e : Same G G') {a : Addr} {u : HO} (h : Rd G a u) : Rd G' a u := by
  rcases h with h | ⟨o, h⟩
  · exact .inl (e _ _ h)
  · exact .inr ⟨o, e _ _ h⟩
theorem ls_same {K : PySem.W.Frag} {G G' : Hp} (e : Same G G') {a : Addr} {xs : List V} (h : LsL K G a xs) : LsL K G' a xs := by
  rcases h with h | h
  · exact .inl (rd_same e h)
  · exact .inr h
theorem sqT_same {K : PySem.W.Frag} {G G' : Hp} (e : Same G G') {a : Addr} {xs : List V} (h : SqT K G a xs) : SqT K G' a xs := by
  rcases h with h | h
  · exact .inl (rd_same e h)
  · exact .inr h
section
variable {K : PySem.W.Frag} {G G' : Hp} (e : Same G G')
include e
mutual
theorem Rep.mono : ∀ {v : V} {d : PyData}, Rep K G v d → Rep K G' v d
  | _, _, .non => .non
  | _, _, .bl b => .bl b
  | _, _, .int i => .int i
  | _, _, .str x => .str x
  | _, _, .lst h r => .lst (ls_same e h) (RepA.mono r)
  | _, _, .tup h r => .tup (sqT_same e h) (RepA.mono r)
  | _, _, .dct h n r => .dct (e _ _ h) n (RepK.mono r)
theorem RepA.mono : ∀ {vs : List V} {ds : List PyData}, RepA K G vs ds → RepA K G' vs ds
  | _, _, .nil => .nil
  | _, _, .cons h r => .cons (Rep.mono h) (RepA.mono r)
theorem RepK.mono : ∀ {vs : List (Key × V)} {ds : List (PyData × PyData)}, RepK K G vs ds → RepK K G' vs ds
  | _, _, .nil => .nil
  | _, _, .cons h r => .cons (Rep.mono h) (RepK.mono r)
end
end
section
variable {K : PySem.W.Frag} {G : Hp}
theorem RepA.length : ∀ {vs : List V} {ds : List PyData}, RepA K G vs ds → vs.length = ds.length
  | _, _, .nil => rfl
  | _, _, .cons _ r => by rw [List.length_cons, List.length_cons, RepA.length r]
theorem RepA.get : ∀ {vs : List V} {ds : List PyData} {i : Nat} {d : PyData}, RepA K G vs ds → ds[i]? = some d → ∃ v, vs[i]? = some v ∧ Rep K G v d
  | _, _, _, _, .nil, e => by simp at e
  | _, _, 0, _, .cons r _, e => by simp at e; subst e; exact ⟨_, rfl, r⟩
  | _, _, i + 1, d, .cons _ t, e => by
    obtain ⟨v, h1, h2⟩ := RepA.get (i := i) (d := d) t (by simpa using e)
    exact ⟨v, by simpa using h1, h2⟩
theorem RepA.append : ∀ {vs ws : List V} {ds es : List PyData}, RepA K G vs ds → RepA K G ws es → RepA K G (vs ++ ws) (ds ++ es)
  | _, _, _, _, .nil, s => s
  | _, _, _, _, .cons r t, s => .cons r (RepA.append t s)
theorem RepA.take : ∀ {vs : List V} {ds : List PyData} (n : Nat), RepA K G vs ds → RepA K G (vs.take n) (ds.take n)
  | _, _, 0, _ => .nil
  | _, _, _ + 1, .nil => .nil
  | _, _, n + 1, .cons r t => .cons r (RepA.take n t)
theorem RepA.drop : ∀ {vs : List V} {ds : List PyData} (n : Nat), RepA K G vs ds → RepA K G (vs.drop n) (ds.drop n)
  | _, _, 0, r => r
  | _, _, _ + 1, .nil => .nil
  | _, _, n + 1, .cons _ t => RepA.drop n t
theorem RepA.set {v : V} {d : PyData} (r : Rep K G v d) : ∀ {vs : List V} {ds : List PyData} (i : Nat), RepA K G vs ds → RepA K G (vs.set i v) (ds.set i d)
  | _, _, _, .nil => .nil
  | _, _, 0, .cons _ t => .cons r t
  | _, _, i + 1, .cons q t => .cons q (RepA.set r i t)
theorem RepA.rep {vs : List V} {ds : List PyData} (h : RepA K G vs ds) : ∀ k : Nat, RepA K G (List.replicate k vs).flatten (List.replicate k ds).flatten
  | 0 => .nil
  | k + 1 => by
    rw [List.replicate_succ, List.replicate_succ, List.flatten_cons, List.flatten_cons]
    exact h.append (RepA.rep h k)
theorem RepA.ints : ∀ {vs : List V} {ns : List Int}, RepA K G vs (ns.map PyData.int) → vs = ns.map V.int
  | [], [], _ => rfl
  | v :: vs, n :: ns, h => by
    rw [List.map_cons] at h
    cases h with
    | cons h r => cases h; rw [RepA.ints r]; rfl
theorem RepA.bls : ∀ {vs : List V} {ns : List Bool}, RepA K G vs (ns.map PyData.bool) → vs = ns.map V.bl
  | [], [], _ => rfl
  | v :: vs, n :: ns, h => by
    rw [List.map_cons] at h
    cases h with
    | cons h r => cases h; rw [RepA.bls r]; rfl
theorem repA_ints : ∀ ns : List Int, RepA K G (ns.map V.int) (ns.map PyData.int)
  | [] => .nil
  | n :: ns => .cons (.int n) (repA_ints ns)
mutual
theorem Rep.dp : ∀ {v : V} {d : PyData}, Rep K G v d → d.canLay0 = true → Dp K G v d
  | _, _, .non, _ => .non
  | _, _, .bl b, _ => .bl b
  | _, _, .int i, _ => .int i
  | _, _, .str x, _ => .str x
  | _, _, .lst h r, c => .lst h.sq (RepA.dp r (by simpa [PyData.canLay0] using c))
  | _, _, .tup h r, c => .tup h (RepA.dp r (by simpa [PyData.canLay0] using c))
  | _, _, .dct h n r, c => by simp [PyData.canLay0] at c
theorem RepA.dp : ∀ {vs : List V} {ds : List PyData}, RepA K G vs ds → PyData.canLayAll0 ds = true → DpAll K G vs ds
  | _, _, .nil, _ => .nil
  | _, _, .cons h r, c => by
    unfold PyData.canLayAll0 at c
    rw [Bool.and_eq_true] at c
    exact .cons (Rep.dp h c.1) (RepA.dp r c.2)
end
end

/-- the view G and the heap H grow: what is new in the view is new in the heap -/
structure Ext (G H G' H' : Hp) : Prop where
  g : Same G G'
  h : Same H H'
  i : Same G' H'
  f : ∀ b, G' b ≠ none → G b = none → H b = none
theorem Ext.refl {G H : Hp} (i : Same G H) : Ext G H G H := ⟨Same.refl _, Same.refl _, i, fun _ h1 h2 => absurd h2 h1⟩
theorem Ext.trans {G H G1 H1 G2 H2 : Hp} (a : Ext G H G1 H1) (b : Ext G1 H1 G2 H2) : Ext G H G2 H2 :=
  ⟨a.g.trans b.g, a.h.trans b.h, b.i, fun c h1 h2 => by
    cases q : G1 c with
    | none => exact a.h.free (b.f c h1 q)
    | some o => exact a.f c (by rw [q]; simp) h2⟩
/-- the heap alone -/
theorem Ext.heap {G H H' : Hp} (i : Same G H) (h : Same H H') : Ext G H G H' := ⟨Same.refl _, h, i.trans h, fun _ h1 h2 => absurd h2 h1⟩
theorem same_new {H : Hp} {p : Addr} {o : HO} (n : H p = none) : Same H (upd H p o) := fun b u e => by
  rw [upd_ne (ne_of_none e n)]
  exact e
/-- a new object, in the view too -/
theorem Ext.new {G H : Hp} {p : Addr} {o : HO} (i : Same G H) (n : H p = none) : Ext G H (upd G p o) (upd H p o) := by
  have gn : G p = none := i.free n
  refine ⟨same_new gn, same_new n, fun b u e => ?_, fun b h1 h2 => ?_⟩
  · by_cases hb : b = p
    · subst hb; rw [upd_same] at e ⊢; exact e
    · rw [upd_ne hb] at e ⊢; exact i b u e
  · by_cases hb : b = p
    · subst hb; exact n
    · rw [upd_ne hb] at h1; exact absurd h2 h1

/-- the slots hold what env says -/
structure EnvR (K : PySem.W.Frag) (G : Hp) (σ : L2.St) (env : List (Option PyData)) : Prop where
  len : env.length ≤ σ.length
  at' : ∀ (i : Nat) (d : PyData), env[i]? = some (some d) → ∃ v, σ[i]? = some (some v) ∧ Rep K G v d
theorem EnvR.mono {K : PySem.W.Frag} {G G' : Hp} {σ : L2.St} {env : List (Option PyData)} (h : EnvR K G σ env) (e : Same G G') : EnvR K G' σ env := ⟨h.len, fun i d q =>
  let ⟨v, h1, h2⟩ := h.at' i d q
  ⟨v, h1, h2.mono e⟩⟩

/-! ### expressions -/
abbrev EF := List (Option PyData) → R PyData
def Post (K : PySem.W.Frag) (ec : Nat → Addr) (W : WX) (σ : L2.St) (G H : Hp) (Q : VK) : R PyData → Prop
  | .ok d => ∀ v G' H', Ext G H G' H' → Rep K G' v d → Q v H'
  | .ex c => ∀ H', Same H H' → W (.ref (ec c)) none σ H'
  | .no => False
def tD (K : PySem.W.Frag) (ec : Nat → Addr) (W : WX) (f : EF) : TE := fun σ H Q => ∃ G env, Same G H ∧ EnvR K G σ env ∧ Post K ec W σ G H Q (f env)
section
variable {K : PySem.W.Frag} {ec : Nat → Addr} {W : WX} {σ : L2.St} {G H G' H' : Hp} {Q Q' : VK}
theorem Post.mono {r : R PyData} (e : Ext G H G' H') (h : Post K ec W σ G H Q r) : Post K ec W σ G' H' Q r := by
  cases r with
  | ok d => exact fun v G2 H2 e2 p => h v G2 H2 (e.trans e2) p
  | ex c => exact fun H2 s2 => h H2 (e.h.trans s2)
  | no => exact h
theorem Post.bind {r : R PyData} {k : PyData → R PyData} (h : Post K ec W σ G H Q (r.bind k)) (hk : ∀ v d G' H', r = .ok d → Ext G H G' H' → Rep K G' v d → Post K ec W σ G' H' Q (k d) → Q' v H') : Post K ec W σ G H Q' r := by
  cases r with
  | ok d => exact fun v G' H' e p => hk v d G' H' rfl e p (Post.mono e h)
  | ex c => exact h
  | no => exact h
end
theorem PE_imp {X : Cx} {e : Expr} {t t' : TE} (h : PE X e t) (k : ∀ σ H Q, t' σ H Q → t σ H Q) : PE X e t' := ⟨fun pins s σ H Q I q => h.run pins s σ H Q I (k _ _ _ q)⟩
theorem PT_imp {X : Cx} {e : Expr} {t t' : TT} (h : PT X e t) (k : ∀ σ H Q, t' σ H Q → t σ H Q) : PT X e t' := ⟨fun pins s σ H Q I q => h.run pins s σ H Q I (k _ _ _ q)⟩
theorem PW_imp {X : Cx} {e : Expr} {t t' : TT} (h : PW X e t) (k : ∀ σ H Q, t' σ H Q → t σ H Q) : PW X e t' := ⟨fun wh pins s σ H Q I q => h.run wh pins s σ H Q I (k _ _ _ q)⟩
theorem PA_imp {X : Cx} {es : List Expr} {t t' : TA} (h : PA X es t) (k : ∀ σ H Q, t' σ H Q → t σ H Q) : PA X es t' := ⟨fun pos pins s σ H Q I q => h.run pos pins s σ H Q I (k _ _ _ q)⟩
theorem PS_imp {X : Cx} {e : Stmt} {t t' : TS} (h : PS X e t) (k : ∀ D σ H, t' D σ H → t D σ H) : PS X e t' := ⟨fun pins s σ H D I q => h.run pins s σ H D I (k _ _ _ q)⟩
theorem PSs_imp {X : Cx} {e : List Stmt} {t t' : TS} (h : PSs X e t) (k : ∀ D σ H, t' D σ H → t D σ H) : PSs X e t' := ⟨fun pins s σ H D I q => h.run pins s σ H D I (k _ _ _ q)⟩

def eVar (i : Nat) (env : List (Option PyData)) : R PyData := match env[i]? with
  | some (some d) => .ok d
  | _ => .no
def eC (d : PyData) (_ : List (Option PyData)) : R PyData := .ok d
def eBin (g : PyData → PyData → R PyData) (fa fb : EF) (env : List (Option PyData)) : R PyData := (fa env).bind fun x => (fb env).bind (g x)
def eUn (g : PyData → R PyData) (fa : EF) (env : List (Option PyData)) : R PyData := (fa env).bind g
/-- a rule for two values is a function on data -/
def OpD (K : PySem.W.Frag) (r : R2) (g : PyData → PyData → R PyData) : Prop :=
  ∀ (x y : V) (dx dy d : PyData) (G H : Hp) (Q : VK), Same G H → Rep K G x dx → Rep K G y dy → g dx dy = .ok d → (∀ v G' H', Ext G H G' H' → Rep K G' v d → Q v H') → r x y H Q
/-- it never tells an error -/
def NoEx (g : PyData → PyData → R PyData) : Prop := ∀ x y c, g x y ≠ .ex c
def UnD (K : PySem.W.Frag) (r : V → Hp → VK → Prop) (g : PyData → R PyData) : Prop :=
  ∀ (x : V) (dx d : PyData) (G H : Hp) (Q : VK), Same G H → Rep K G x dx → g dx = .ok d → (∀ v G' H', Ext G H G' H' → Rep K G' v d → Q v H') → r x H Q
section
variable {X : Cx} {ec : Nat → Addr} {W : WX} {a b e : Expr} {fa fb f : EF} {pos : Pos}
theorem se_var (i : Nat) {x : Str} (hN : X.N[i]? = some x := by rfl) (hv : Vis X.env.scope x := by first | exact Or.inl rfl | exact Or.inr (Or.inl rfl) | exact Or.inr (Or.inr rfl)) (hd : (x == ("__debug__" : Str)) = false := by decide)
    (hcd : (x == ("__classdict__" : Str)) = false := by decide) : PE X (.Name x pos) (tD X.K ec W (eVar i)) :=
  PE_imp (pe_var hN hv hd hcd) fun σ H Q ⟨G, env, s, E, p⟩ => by
    unfold eVar at p
    split at p
    · rename_i d h
      obtain ⟨v, h1, h2⟩ := E.at' i d h
      exact ⟨v, h1, p v G H (Ext.refl s) h2⟩
    · exact p.elim
theorem se_c {v : V} {d : PyData} (h : PE X e (tC v)) (r : ∀ G, Rep X.K G v d) : PE X e (tD X.K ec W (eC d)) :=
  PE_imp h fun σ H Q ⟨G, env, s, E, p⟩ => p v G H (Ext.refl s) (r G)
theorem se_int {i : Int} {j : Nat} : PE X (.Constant (.int i) j pos) (tD X.K ec W (eC (.int i))) := se_c pe_int fun _ => .int i
theorem se_str {x : Str} {j : Nat} : PE X (.Constant (.str x) j pos) (tD X.K ec W (eC (.str x))) := se_c pe_str fun _ => .str x
theorem se_bl {x : Bool} {j : Nat} : PE X (.Constant (.bool x) j pos) (tD X.K ec W (eC (.bool x))) := se_c pe_bl fun _ => .bl x
theorem se_non {j : Nat} : PE X (.Constant .none j pos) (tD X.K ec W (eC .none)) := se_c pe_non fun _ => .non
theorem tOp_D {K : PySem.W.Frag} {r : R2} {g : PyData → PyData → R PyData} (hg : OpD K r g) (hx : NoEx g) {σ : L2.St} {H : Hp} {Q : VK} : tD K ec W (eBin g fa fb) σ H Q → tOp r (tD K ec W fa) (tD K ec W fb) σ H Q := by
  rintro ⟨G, env, s, E, p⟩
  refine ⟨G, env, s, E, Post.bind p fun x dx G1 H1 _ e1 r1 p1 => ?_⟩
  refine ⟨G1, env, e1.i, E.mono e1.g, Post.bind p1 fun y dy G2 H2 _ e2 r2 p2 => ?_⟩
  cases q : g dx dy with
  | ok d => rw [q] at p2; exact hg x y dx dy d G2 H2 Q e2.i (r1.mono e2.g) r2 q p2
  | ex c => exact absurd q (hx dx dy c)
  | no => rw [q] at p2; exact p2.elim
theorem tUn_D {K : PySem.W.Frag} {r : V → Hp → VK → Prop} {g : PyData → R PyData} (hg : UnD K r g) (hx : ∀ x c, g x ≠ .ex c) {σ : L2.St} {H : Hp} {Q : VK} : tD K ec W (eUn g fa) σ H Q → tUn r (tD K ec W fa) σ H Q := by
  rintro ⟨G, env, s, E, p⟩
  refine ⟨G, env, s, E, Post.bind p fun x dx G1 H1 _ e1 r1 p1 => ?_⟩
  cases q : g dx with
  | ok d => rw [q] at p1; exact hg x dx d G1 H1 Q e1.i r1 q p1
  | ex c => exact absurd q (hx dx c)
  | no => rw [q] at p1; exact p1.elim
theorem se_bin {op : Operator} {r : R2} {g : PyData → PyData → R PyData} (ho : OpR X (binaryOp op) r) (hg : OpD X.K r g) (hx : NoEx g) (ha : PE X a (tD X.K ec W fa)) (hb : PE X b (tD X.K ec W fb)) :
    PE X (.BinOp a op b pos) (tD X.K ec W (eBin g fa fb)) := PE_imp (pe_op ho ha hb) fun _ _ _ => tOp_D hg hx
theorem se_cmp {op : CmpOp} {r : R2} {g : PyData → PyData → R PyData} (ho : OpR X (compareOp op) r) (hg : OpD X.K r g) (hx : NoEx g) (ha : PE X a (tD X.K ec W fa)) (hb : PE X b (tD X.K ec W fb)) (hm : behindInMarks op b = false) :
    PE X (.Compare a [op] [b] pos) (tD X.K ec W (eBin g fa fb)) := PE_imp (pe_cmpR ho ha hb hm) fun _ _ _ => tOp_D hg hx
theorem se_ix {r : R2} {g : PyData → PyData → R PyData} (ho : IxR X r) (hg : OpD X.K r g) (hx : NoEx g) (ha : PE X a (tD X.K ec W fa)) (hb : PE X b (tD X.K ec W fb)) (hs : PlainIx b) :
    PE X (.Subscript a b pos) (tD X.K ec W (eBin g fa fb)) := PE_imp (pe_ix ho ha hb hs) fun _ _ _ => tOp_D hg hx
theorem se_un {op : UnaryOp} {r : V → Hp → VK → Prop} {g : PyData → R PyData} (ho : UnR X (unaryOp op) r) (hg : UnD X.K r g) (hx : ∀ x c, g x ≠ .ex c) (ha : PE X a (tD X.K ec W fa)) :
    PE X (.UnaryOp op a pos) (tD X.K ec W (eUn g fa)) := PE_imp (pe_un ho ha) fun _ _ _ => tUn_D hg hx
end
end PL
/-! PL, part b: operators, tests, argument lists, displays. -/
namespace PL
open PySem PySem.Spec PyProof.Rows L2

/-! ### operators on data -/
def szl : Nat := 1000000
theorem szl_line {n : Nat} (h : n ≤ szl) : n ≤ sizeLine := Nat.le_trans h (by decide)
def mulOk (a b : Int) : Bool := decide (-(2 ^ 64) < a) && decide (a < 2 ^ 64) || (decide (-(2 ^ 64) < b) && decide (b < 2 ^ 64)) || decide (a.natAbs.log2 + b.natAbs.log2 < 1000000)
theorem mulOk_ok {a b : Int} (h : mulOk a b = true) : IntMulOk a b := by
  unfold mulOk at h
  rw [Bool.or_eq_true, Bool.or_eq_true, Bool.and_eq_true, Bool.and_eq_true, decide_eq_true_eq, decide_eq_true_eq, decide_eq_true_eq, decide_eq_true_eq, decide_eq_true_eq] at h
  rcases h with (h | h) | h
  · exact IntMulOk.of_left (intBits_le_64 h.1 h.2)
  · exact IntMulOk.of_right (intBits_le_64 h.1 h.2)
  · exact CMulW.ok h
def divOk (b : Int) : Bool := decide (0 < b) && decide (b.natAbs.log2 < 9000)
def dAdd : PyData → PyData → R PyData
  | .int a, .int b => .ok (.int (a + b))
  | .list a, .list b => if a.length + b.length ≤ szl then .ok (.list (a ++ b)) else .no
  | .tuple a, .tuple b => if a.length + b.length ≤ szl then .ok (.tuple (a ++ b)) else .no
  | _, _ => .no
def dSub : PyData → PyData → R PyData
  | .int a, .int b => .ok (.int (a - b))
  | _, _ => .no
def dMul : PyData → PyData → R PyData
  | .int a, .int b => if mulOk a b = true then .ok (.int (a * b)) else .no
  | .list a, .int k => if a.length * k.toNat ≤ szl ∧ k < 1000000 ∧ -1000000 < k then .ok (.list (List.replicate k.toNat a).flatten) else .no
  | .tuple a, .int k => if a ≠ [] ∧ 2 ≤ k ∧ k ≤ 1000 ∧ a.length ≤ 1000 then .ok (.tuple (List.replicate k.toNat a).flatten) else .no
  | _, _ => .no
def dDiv : PyData → PyData → R PyData
  | .int a, .int b => if divOk b = true then .ok (.int (a / b)) else .no
  | _, _ => .no
def dMod : PyData → PyData → R PyData
  | .int a, .int b => if 0 < b then .ok (.int (a % b)) else .no
  | _, _ => .no
def dPow : PyData → PyData → R PyData
  | .int a, .int b => if 0 ≤ b ∧ b ≤ 1000000 ∧ a.natAbs < 2 ^ 64 then .ok (.int (a ^ b.toNat)) else .no
  | _, _ => .no
def dEq (x y : PyData) : R PyData := if SeqAt.shaped x = true ∧ SeqAt.shaped y = true then .ok (.bool (PyData.eqv x y)) else .no
def dNe (x y : PyData) : R PyData := if SeqAt.shaped x = true ∧ SeqAt.shaped y = true then .ok (.bool (!PyData.eqv x y)) else .no
def strLt (x y : Str) : Bool := decide (x.cps.toList < y.cps.toList)
def strLe (x y : Str) : Bool := !decide (y.cps.toList < x.cps.toList)
def dLt : PyData → PyData → R PyData
  | .int a, .int b => .ok (.bool (decide (a < b)))
  | _, _ => .no
def dLe : PyData → PyData → R PyData
  | .int a, .int b => .ok (.bool (decide (a ≤ b)))
  | _, _ => .no
def dGt : PyData → PyData → R PyData
  | .int a, .int b => .ok (.bool (decide (b < a)))
  | _, _ => .no
def dGe : PyData → PyData → R PyData
  | .int a, .int b => .ok (.bool (decide (b ≤ a)))
  | _, _ => .no
def isNone : PyData → Bool
  | .none => true
  | _ => false
def dIs : PyData → PyData → R PyData
  | x, .none => .ok (.bool (isNone x))
  | .bool a, .bool b => .ok (.bool (decide (a = b)))
  | _, _ => .no
def dIsNot : PyData → PyData → R PyData
  | x, .none => .ok (.bool (!isNone x))
  | .bool a, .bool b => .ok (.bool (!decide (a = b)))
  | _, _ => .no
/-- the item at an index of any sign -/
def dIx : PyData → PyData → R PyData
  | .list xs, .int i => match atI xs i with
    | some d => .ok d
    | none => .no
  | .tuple xs, .int i => match atI xs i with
    | some d => .ok d
    | none => .no
  | _, _ => .no
def dNeg : PyData → R PyData
  | .int a => .ok (.int (-a))
  | _ => .no

section
variable {K : PySem.W.Frag} {G H : Hp}
theorem ext_list {xs : List V} {ds : List PyData} {p : Addr} (i : Same G H) (n : H p = none) (r : RepA K G xs ds) : Rep K (upd G p (.lst xs)) (.ref p) (.list ds) :=
  .lst (.of upd_same) (r.mono (same_new (i.free n)))
theorem ext_tup {xs : List V} {ds : List PyData} {p : Addr} (i : Same G H) (n : H p = none) (r : RepA K G xs ds) : Rep K (upd G p (.tup xs)) (.ref p) (.tuple ds) :=
  .tup (.inl (.inl upd_same)) (r.mono (same_new (i.free n)))
end
section
variable {X : Cx}
/-- the object of a list that is read -/
theorem ls_obj {pins : List (Addr × Obj)} {σ : L2.St} {H : Hp} {s : Shared} {a : Addr} {xs : List V} (I : Inv X pins σ H s) (h : LsL X.K H a xs) :
    ∃ (its : List Value) (n : Nat), Vals xs its ∧ its.length = xs.length ∧ xs.length ≤ sizeLine ∧ s.heap.get? a = some { cls := .type "list", data := .seq its.toArray n } := by
  rcases h with h | ⟨its, n, h1, h2, h3⟩
  · obtain ⟨z, its, n, r, e⟩ := h.ok I.hok
    exact ⟨its, n, r, r.length.symm, z, e⟩
  · exact ⟨its, n, h3, h3.length.symm, by rw [h3.length]; exact h2, I.kIn _ _ h1⟩
/-- list + list, both only read -/
def rCatR (K : PySem.W.Frag) : R2 := fun x y H Q => ∃ l b xs zs, x = .ref l ∧ y = .ref b ∧ LsL K H l xs ∧ LsL K H b zs ∧ xs.length + zs.length ≤ sizeLine ∧ ∀ p, H p = none → Q (.ref p) (upd H p (.lst (xs ++ zs)))
theorem op_catR : OpR X (binaryOp .Add) (rCatR X.K) := fun pins s σ H x y v u Q I rx ry ⟨l, b, xs, zs, ex, ey, hl, hb, hz, q⟩ => by
  subst ex ey
  obtain rfl : v = Value.ref l := rx
  obtain rfl : u = Value.ref b := ry
  obtain ⟨is, n, r1, l1, _, o1⟩ := ls_obj I hl
  obtain ⟨js, m, r2, l2, _, o2⟩ := ls_obj I hb
  have fit : is.toArray.size + js.toArray.size ≤ sizeLine := by simp only [List.size_toArray, l1, l2]; exact hz
  have glue : is.toArray ++ js.toArray = (is ++ js).toArray := by simp
  refine PySem.P.add_list o1 o2 (glue ▸ ?_) fit
  have long : (xs ++ zs).length ≤ sizeLine := by simp only [List.length_append]; exact hz
  exact ⟨.ref _, _, I.lnew (t' := s.toks) (r1.append r2) long, rfl, q _ I.fresh⟩
def rAddP (K : PySem.W.Frag) : R2 := fun x y H Q => rI0 (fun i j => .int (i + j)) x y H Q ∨ rCatR K x y H Q ∨ rCatA K x y H Q
theorem op_addP : OpR X (binaryOp .Add) (rAddP X.K) := op_add.or (op_catR.or op_catA)
theorem od_add {K : PySem.W.Frag} : OpD K (rAddP K) dAdd := by
  intro x y dx dy d G H Q i rx ry h q
  cases rx with
  | int a =>
    cases ry with
    | int b => cases h; exact .inl ⟨a, b, rfl, rfl, q _ G H (Ext.refl i) (.int _)⟩
    | _ => cases h
  | @lst a xs ds ha r =>
    cases ry with
    | @lst b zs es hb r2 =>
      simp only [dAdd] at h
      split at h
      · rename_i hz
        cases h
        refine .inr (.inl ⟨a, b, xs, zs, rfl, rfl, ls_same i ha, ls_same i hb, szl_line (by rw [r.length, r2.length]; exact hz), fun p n => ?_⟩)
        exact q _ _ _ (Ext.new i n) (ext_list i n (r.append r2))
      · cases h
    | _ => cases h
  | @tup a xs ds ha r =>
    cases ry with
    | @tup b zs es hb r2 =>
      simp only [dAdd] at h
      split at h
      · rename_i hz
        cases h
        refine .inr (.inr ⟨a, b, xs, zs, rfl, rfl, sqT_same i ha, sqT_same i hb, szl_line (by rw [r.length, r2.length]; exact hz), fun e => ?_, fun _ e => ?_, fun _ _ p n => ?_⟩)
        · subst e
          cases r
          exact q _ G H (Ext.refl i) (.tup hb r2)
        · subst e
          cases r2
          exact q _ G H (Ext.refl i) (.tup ha (by rw [List.append_nil]; exact r))
        · exact q _ _ _ (Ext.new i n) (ext_tup i n (r.append r2))
      · cases h
    | _ => cases h
  | _ => cases h
theorem nx_add : NoEx dAdd := by
  intro x y c h
  unfold dAdd at h
  split at h
  · cases h
  · split at h <;> cases h
  · split at h <;> cases h
  · cases h
theorem od_sub {K : PySem.W.Frag} : OpD K (rI0 fun i j => .int (i - j)) dSub := by
  intro x y dx dy d G H Q i rx ry h q
  cases rx with
  | int a =>
    cases ry with
    | int b => cases h; exact ⟨a, b, rfl, rfl, q _ G H (Ext.refl i) (.int _)⟩
    | _ => cases h
  | _ => cases h
theorem nx_sub : NoEx dSub := by
  intro x y c h
  unfold dSub at h
  split at h <;> cases h
/-- list * int, the list only read -/
def rRepR (K : PySem.W.Frag) : R2 := fun x y H Q => ∃ l k xs, x = .ref l ∧ y = .int k ∧ LsL K H l xs ∧ -(2 ^ 63) ≤ k ∧ k < 2 ^ 63 ∧ xs.length * k.toNat ≤ sizeLine ∧
  ∀ p, H p = none → Q (.ref p) (upd H p (.lst (List.replicate k.toNat xs).flatten))
theorem rep_array (is : List Value) (m : Nat) : List.foldl (fun x1 x2 => x1 ++ x2) #[] (List.replicate (if is.toArray.isEmpty = true then 0 else m) is.toArray) = (List.replicate m is).flatten.toArray := by
  have all := foldl_rep is
  cases is with
  | nil => simpa using all 0 []
  | cons z zs => simpa using all m []
theorem op_repR : OpR X (binaryOp .Mult) (rRepR X.K) := fun pins s σ H x y v u Q I rx ry ⟨l, k, xs, ex, ey, hl, lo, hi, hz, q⟩ => by
  subst ex ey
  obtain rfl : v = Value.ref l := rx
  obtain ⟨t, rfl⟩ : ∃ t, u = Value.int k t := ry
  obtain ⟨is, n, r1, l1, _, o1⟩ := ls_obj I hl
  have fit : is.toArray.size * k.toNat ≤ sizeLine := by simp only [List.size_toArray, l1]; exact hz
  have c1 : ¬ (!Builtin.List.listFitsIndex k) = true := by simp [fitsIndex_both lo hi]
  have c2 : ¬ is.toArray.size * k.toNat > (2 ^ 63 - 1) / 8 := Nat.not_lt.mpr (Nat.le_trans fit (by decide))
  have c3 : ¬ Builtin.List.listTooLong (is.toArray.size * k.toNat) = true := by rw [notLongL fit]; exact Bool.false_ne_true
  have inner := AutoListH.list___mul___list_int_3 l is.toArray n k t c1 c2 c3
  have fin : EP X pins σ Q (.ref s.heap.objs.size) { s with heap := s.heap.push { cls := .type "list", data := .seq (List.replicate k.toNat is).flatten.toArray } } :=
    ⟨.ref _, _, I.lnew (t' := s.toks) (r1.rep k.toNat) (by rw [PyProof.Rows.lm_len_rep_flat, Nat.mul_comm]; exact hz), rfl, q _ I.fresh⟩
  rw [← rep_array is k.toNat] at fin
  exact wpAny_binaryOp_repeat_ref (T := "list") (U := "int") (by decide) ⟨_, o1, rfl⟩ (fun s' => typeIs_int s' k t) noFill_list_mul F.fills_int_mul F.slot_int_rmul repeat_list F.slot_int_index.lookup
    (call_meets F.slot_int_rmul (typeIs_int s k t) F.entry_int_rmul (F.args_int_rmul_2 _ _) (int___rmul___int_list k t l is.toArray n) ⟨o1, rfl, ⟨_, o1, rfl⟩, call_meets F.slot_list_mul ⟨_, o1, rfl⟩ F.entry_list_mul (F.args_list_mul_2 _ _) inner ⟨o1, fin⟩⟩)
end
end PL
/-! PL, part c: more operators, tests, argument lists, displays, calls. -/
namespace PL
open PySem PySem.Spec PyProof.Rows L2
section
variable {X : Cx} {K : PySem.W.Frag}
def rMulP (K : PySem.W.Frag) : R2 := fun x y H Q => rI (fun i j => mulOk i j = true) (fun i j => .int (i * j)) x y H Q ∨ rRepR K x y H Q ∨ rRepT K x y H Q
theorem op_mulI : OpR X (binaryOp .Mult) (rI (fun i j => mulOk i j = true) fun i j => .int (i * j)) := opI fun _ _ _ _ _ _ _ hc q => mul_int q (mulOk_ok hc)
theorem op_mulP : OpR X (binaryOp .Mult) (rMulP X.K) := op_mulI.or (op_repR.or op_repT)
theorem od_mul : OpD K (rMulP K) dMul := by
  intro x y dx dy d G H Q i rx ry h q
  cases rx with
  | int a =>
    cases ry with
    | int b =>
      simp only [dMul] at h
      split at h
      · rename_i hm
        cases h
        exact .inl ⟨a, b, rfl, rfl, hm, q _ G H (Ext.refl i) (.int _)⟩
      · cases h
    | _ => cases h
  | @lst a xs ds ha r =>
    cases ry with
    | int k =>
      simp only [dMul] at h
      split at h
      · rename_i hz
        cases h
        refine .inr (.inl ⟨a, k, xs, rfl, rfl, ls_same i ha, by omega, by omega, szl_line (by rw [r.length]; exact hz.1), fun p n => ?_⟩)
        exact q _ _ _ (Ext.new i n) (ext_list i n (r.rep _))
      · cases h
    | _ => cases h
  | @tup a xs ds ha r =>
    cases ry with
    | int k =>
      simp only [dMul] at h
      split at h
      · rename_i hz
        cases h
        have hl := r.length
        refine .inr (.inr ⟨a, k, xs, rfl, rfl, sqT_same i ha, fun e => ?_, hz.2.1, hz.2.2.1, by rw [hl]; exact hz.2.2.2, fun p n => ?_⟩)
        · subst e
          cases r
          exact hz.1 rfl
        · exact q _ _ _ (Ext.new i n) (ext_tup i n (r.rep _))
      · cases h
    | _ => cases h
  | _ => cases h
theorem nx_mul : NoEx dMul := by
  intro x y c h
  unfold dMul at h
  split at h
  · split at h <;> cases h
  · split at h <;> cases h
  · split at h <;> cases h
  · cases h
theorem od_div : OpD K (rI CDivW fun i j => .int (i / j)) dDiv := by
  intro x y dx dy d G H Q i rx ry h q
  cases rx with
  | int a =>
    cases ry with
    | int b =>
      simp only [dDiv] at h
      split at h
      · rename_i hm
        cases h
        unfold divOk at hm
        rw [Bool.and_eq_true, decide_eq_true_eq, decide_eq_true_eq] at hm
        exact ⟨a, b, rfl, rfl, hm, q _ G H (Ext.refl i) (.int _)⟩
      · cases h
    | _ => cases h
  | _ => cases h
theorem nx_div : NoEx dDiv := by
  intro x y c h
  unfold dDiv at h
  split at h
  · split at h <;> cases h
  · cases h
theorem od_mod : OpD K (rI (fun _ j => 0 < j) fun i j => .int (i % j)) dMod := by
  intro x y dx dy d G H Q i rx ry h q
  cases rx with
  | int a =>
    cases ry with
    | int b =>
      simp only [dMod] at h
      split at h
      · rename_i hm
        cases h
        exact ⟨a, b, rfl, rfl, hm, q _ G H (Ext.refl i) (.int _)⟩
      · cases h
    | _ => cases h
  | _ => cases h
theorem nx_mod : NoEx dMod := by
  intro x y c h
  unfold dMod at h
  split at h
  · split at h <;> cases h
  · cases h
theorem od_pow : OpD K (rI CPow fun i j => .int (i ^ j.toNat)) dPow := by
  intro x y dx dy d G H Q i rx ry h q
  cases rx with
  | int a =>
    cases ry with
    | int b =>
      simp only [dPow] at h
      split at h
      · rename_i hm
        cases h
        exact ⟨a, b, rfl, rfl, hm, q _ G H (Ext.refl i) (.int _)⟩
      · cases h
    | _ => cases h
  | _ => cases h
theorem nx_pow : NoEx dPow := by
  intro x y c h
  unfold dPow at h
  split at h
  · split at h <;> cases h
  · cases h
theorem od_eq : OpD K (rEqD K) dEq := by
  intro x y dx dy d G H Q i rx ry h q
  unfold dEq at h
  split at h
  · rename_i hs
    cases h
    exact ⟨dx, dy, (rx.mono i).dp (SeqAt.canLay_of_shaped hs.1), (ry.mono i).dp (SeqAt.canLay_of_shaped hs.2), hs.1, hs.2, q _ G H (Ext.refl i) (.bl _)⟩
  · cases h
theorem od_ne : OpD K (rNeD K) dNe := by
  intro x y dx dy d G H Q i rx ry h q
  unfold dNe at h
  split at h
  · rename_i hs
    cases h
    exact ⟨dx, dy, (rx.mono i).dp (SeqAt.canLay_of_shaped hs.1), (ry.mono i).dp (SeqAt.canLay_of_shaped hs.2), hs.1, hs.2, q _ G H (Ext.refl i) (.bl _)⟩
  · cases h
theorem nx_eq : NoEx dEq := by
  intro x y c h
  unfold dEq at h
  split at h <;> cases h
theorem nx_ne : NoEx dNe := by
  intro x y c h
  unfold dNe at h
  split at h <;> cases h
theorem od_lt : OpD K (rI0 fun i j => .bl (decide (i < j))) dLt := by
  intro x y dx dy d G H Q i rx ry h q
  cases rx with
  | int a =>
    cases ry with
    | int b => cases h; exact ⟨a, b, rfl, rfl, q _ G H (Ext.refl i) (.bl _)⟩
    | _ => cases h
  | _ => cases h
theorem od_le : OpD K (rI0 fun i j => .bl (decide (i ≤ j))) dLe := by
  intro x y dx dy d G H Q i rx ry h q
  cases rx with
  | int a =>
    cases ry with
    | int b => cases h; exact ⟨a, b, rfl, rfl, q _ G H (Ext.refl i) (.bl _)⟩
    | _ => cases h
  | _ => cases h
theorem od_gt : OpD K (rI0 fun i j => .bl (decide (j < i))) dGt := by
  intro x y dx dy d G H Q i rx ry h q
  cases rx with
  | int a =>
    cases ry with
    | int b => cases h; exact ⟨a, b, rfl, rfl, q _ G H (Ext.refl i) (.bl _)⟩
    | _ => cases h
  | _ => cases h
theorem od_ge : OpD K (rI0 fun i j => .bl (decide (j ≤ i))) dGe := by
  intro x y dx dy d G H Q i rx ry h q
  cases rx with
  | int a =>
    cases ry with
    | int b => cases h; exact ⟨a, b, rfl, rfl, q _ G H (Ext.refl i) (.bl _)⟩
    | _ => cases h
  | _ => cases h
theorem nx_lt : NoEx dLt := by
  intro x y c h
  unfold dLt at h
  split at h <;> cases h
theorem nx_le : NoEx dLe := by
  intro x y c h
  unfold dLe at h
  split at h <;> cases h
theorem nx_gt : NoEx dGt := by
  intro x y c h
  unfold dGt at h
  split at h <;> cases h
theorem nx_ge : NoEx dGe := by
  intro x y c h
  unfold dGe at h
  split at h <;> cases h
theorem non_iff {G : Hp} {x : V} {d : PyData} (r : Rep K G x d) : decide (x = .non) = isNone d := by cases r <;> rfl
def rIsP : R2 := fun x y H Q => (y = .non ∧ Q (.bl (decide (x = .non))) H) ∨ rIsB x y H Q
def rNotP : R2 := fun x y H Q => (y = .non ∧ Q (.bl (!decide (x = .non))) H) ∨ rNotB x y H Q
theorem op_isP : OpR X (compareOp .Is) rIsP := op_isN.or op_isBl
theorem op_notP : OpR X (compareOp .IsNot) rNotP := op_notN.or op_notBl
theorem od_is : OpD K rIsP dIs := by
  intro x y dx dy d G H Q i rx ry h q
  cases ry with
  | non =>
    cases h
    exact .inl ⟨rfl, by rw [non_iff rx]; exact q _ G H (Ext.refl i) (.bl _)⟩
  | bl b =>
    cases rx with
    | bl a => cases h; exact .inr ⟨a, b, rfl, rfl, q _ G H (Ext.refl i) (.bl _)⟩
    | _ => cases h
  | _ => cases rx <;> cases h
theorem od_isNot : OpD K rNotP dIsNot := by
  intro x y dx dy d G H Q i rx ry h q
  cases ry with
  | non =>
    cases h
    exact .inl ⟨rfl, by rw [non_iff rx]; exact q _ G H (Ext.refl i) (.bl _)⟩
  | bl b =>
    cases rx with
    | bl a => cases h; exact .inr ⟨a, b, rfl, rfl, q _ G H (Ext.refl i) (.bl _)⟩
    | _ => cases h
  | _ => cases rx <;> cases h
theorem nx_is : NoEx dIs := by
  intro x y c h
  unfold dIs at h
  split at h <;> cases h
theorem nx_isNot : NoEx dIsNot := by
  intro x y c h
  unfold dIsNot at h
  split at h <;> cases h
theorem RepA.atI {G : Hp} {vs : List V} {ds : List PyData} {i : Int} {d : PyData} (r : RepA K G vs ds) (h : L2.atI ds i = some d) : ∃ v, L2.atI vs i = some v ∧ Rep K G v d := by
  unfold L2.atI at h ⊢
  rw [r.length]
  cases e : ixN ds.length i with
  | none => rw [e] at h; cases h
  | some j =>
    rw [e] at h
    exact r.get h
theorem od_ix : OpD K (rIx K) dIx := by
  intro x y dx dy d G H Q i rx ry h q
  cases rx with
  | @lst a xs ds ha r =>
    cases ry with
    | int k =>
      simp only [dIx] at h
      split at h
      · rename_i d' hd
        cases h
        obtain ⟨v, h1, h2⟩ := r.atI hd
        exact .inl ⟨a, xs, k, v, rfl, rfl, (ls_same i ha).sq, h1, q v G H (Ext.refl i) h2⟩
      · cases h
    | _ => cases h
  | @tup a xs ds ha r =>
    cases ry with
    | int k =>
      simp only [dIx] at h
      split at h
      · rename_i d' hd
        cases h
        obtain ⟨v, h1, h2⟩ := r.atI hd
        exact .inr (.inl ⟨a, xs, k, v, rfl, rfl, sqT_same i ha, h1, q v G H (Ext.refl i) h2⟩)
      · cases h
    | _ => cases h
  | _ => cases h
theorem nx_ix : NoEx dIx := by
  intro x y c h
  unfold dIx at h
  split at h
  · split at h <;> cases h
  · split at h <;> cases h
  · cases h
theorem ud_neg : UnD K (rU fun i => .int (-i)) dNeg := by
  intro x dx d G H Q i rx h q
  cases rx with
  | int a => cases h; exact ⟨a, rfl, q _ G H (Ext.refl i) (.int _)⟩
  | _ => cases h
theorem ux_neg : ∀ x c, dNeg x ≠ .ex c := by
  intro x c h
  unfold dNeg at h
  split at h <;> cases h
end
section
variable {X : Cx} {ec : Nat → Addr} {W : WX} {a b c e : Expr} {fa fb fc f : EF} {pos : Pos}
theorem se_add (ha : PE X a (tD X.K ec W fa)) (hb : PE X b (tD X.K ec W fb)) : PE X (.BinOp a .Add b pos) (tD X.K ec W (eBin dAdd fa fb)) := se_bin op_addP od_add nx_add ha hb
theorem se_sub (ha : PE X a (tD X.K ec W fa)) (hb : PE X b (tD X.K ec W fb)) : PE X (.BinOp a .Sub b pos) (tD X.K ec W (eBin dSub fa fb)) := se_bin op_sub od_sub nx_sub ha hb
theorem se_mul (ha : PE X a (tD X.K ec W fa)) (hb : PE X b (tD X.K ec W fb)) : PE X (.BinOp a .Mult b pos) (tD X.K ec W (eBin dMul fa fb)) := se_bin op_mulP od_mul nx_mul ha hb
theorem se_div (ha : PE X a (tD X.K ec W fa)) (hb : PE X b (tD X.K ec W fb)) : PE X (.BinOp a .FloorDiv b pos) (tD X.K ec W (eBin dDiv fa fb)) := se_bin op_fdivW od_div nx_div ha hb
theorem se_mod (ha : PE X a (tD X.K ec W fa)) (hb : PE X b (tD X.K ec W fb)) : PE X (.BinOp a .Mod b pos) (tD X.K ec W (eBin dMod fa fb)) := se_bin op_mod od_mod nx_mod ha hb
theorem se_pow (ha : PE X a (tD X.K ec W fa)) (hb : PE X b (tD X.K ec W fb)) : PE X (.BinOp a .Pow b pos) (tD X.K ec W (eBin dPow fa fb)) := se_bin op_pow od_pow nx_pow ha hb
theorem se_neg (ha : PE X a (tD X.K ec W fa)) : PE X (.UnaryOp .USub a pos) (tD X.K ec W (eUn dNeg fa)) := se_un un_neg ud_neg ux_neg ha
theorem se_at (ha : PE X a (tD X.K ec W fa)) (hb : PE X b (tD X.K ec W fb)) (hs : PlainIx b := by exact fun _ _ => rfl) : PE X (.Subscript a b pos) (tD X.K ec W (eBin dIx fa fb)) := se_ix ix_seq od_ix nx_ix ha hb hs
theorem se_eq (hu : X.A.units + 64 < cLine) (ha : PE X a (tD X.K ec W fa)) (hb : PE X b (tD X.K ec W fb)) : PE X (.Compare a [.Eq] [b] pos) (tD X.K ec W (eBin dEq fa fb)) := se_cmp (op_eqD hu) od_eq nx_eq ha hb (nomark _)
theorem se_ne (hu : X.A.units + 64 < cLine) (ha : PE X a (tD X.K ec W fa)) (hb : PE X b (tD X.K ec W fb)) : PE X (.Compare a [.NotEq] [b] pos) (tD X.K ec W (eBin dNe fa fb)) := se_cmp (op_neD hu) od_ne nx_ne ha hb (nomark _)
theorem se_lt (ha : PE X a (tD X.K ec W fa)) (hb : PE X b (tD X.K ec W fb)) : PE X (.Compare a [.Lt] [b] pos) (tD X.K ec W (eBin dLt fa fb)) := se_cmp op_lt od_lt nx_lt ha hb (nomark _)
theorem se_le (ha : PE X a (tD X.K ec W fa)) (hb : PE X b (tD X.K ec W fb)) : PE X (.Compare a [.LtE] [b] pos) (tD X.K ec W (eBin dLe fa fb)) := se_cmp op_le od_le nx_le ha hb (nomark _)
theorem se_gt (ha : PE X a (tD X.K ec W fa)) (hb : PE X b (tD X.K ec W fb)) : PE X (.Compare a [.Gt] [b] pos) (tD X.K ec W (eBin dGt fa fb)) := se_cmp op_gt od_gt nx_gt ha hb (nomark _)
theorem se_ge (ha : PE X a (tD X.K ec W fa)) (hb : PE X b (tD X.K ec W fb)) : PE X (.Compare a [.GtE] [b] pos) (tD X.K ec W (eBin dGe fa fb)) := se_cmp op_ge od_ge nx_ge ha hb (nomark _)
theorem se_is (ha : PE X a (tD X.K ec W fa)) (hb : PE X b (tD X.K ec W fb)) : PE X (.Compare a [.Is] [b] pos) (tD X.K ec W (eBin dIs fa fb)) := se_cmp op_isP od_is nx_is ha hb (nomark _)
theorem se_isNot (ha : PE X a (tD X.K ec W fa)) (hb : PE X b (tD X.K ec W fb)) : PE X (.Compare a [.IsNot] [b] pos) (tD X.K ec W (eBin dIsNot fa fb)) := se_cmp op_notP od_isNot nx_isNot ha hb (nomark _)
end

/-! ### tests -/
abbrev TF := List (Option PyData) → R Bool
def toB : R PyData → R Bool
  | .ok (.bool b) => .ok b
  | .ok _ => .no
  | .ex c => .ex c
  | .no => .no
def bVal (f : EF) (env : List (Option PyData)) : R Bool := toB (f env)
def bC (b : Bool) (_ : List (Option PyData)) : R Bool := .ok b
def bNot (f : TF) (env : List (Option PyData)) : R Bool := (f env).bind fun b => .ok (!b)
def bAnd (f g : TF) (env : List (Option PyData)) : R Bool := (f env).bind fun b => (if b then g else bC false) env
def bOr (f g : TF) (env : List (Option PyData)) : R Bool := (f env).bind fun b => (if b then bC true else g) env
def eAnd (f g : EF) (env : List (Option PyData)) : R PyData := (bVal f env).bind fun b => (if b then g else eC (.bool false)) env
def eOr (f g : EF) (env : List (Option PyData)) : R PyData := (bVal f env).bind fun b => (if b then eC (.bool true) else g) env
def eNot (f : EF) (env : List (Option PyData)) : R PyData := (bVal f env).bind fun b => .ok (.bool (!b))
def eIf (t : TF) (f g : EF) (env : List (Option PyData)) : R PyData := (t env).bind fun b => (if b then f else g) env
def eChain (g g' : PyData → PyData → R PyData) (fa fb fc : EF) (env : List (Option PyData)) : R PyData := (fa env).bind fun x => (fb env).bind fun y => (toB (g x y)).bind fun k => if k then (fc env).bind (g' y) else .ok (.bool false)
def PostB (K : PySem.W.Frag) (ec : Nat → Addr) (W : WX) (σ : L2.St) (H : Hp) (Q : Bool → Hp → Prop) : R Bool → Prop
  | .ok b => ∀ H', Same H H' → Q b H'
  | .ex c => ∀ H', Same H H' → W (.ref (ec c)) none σ H'
  | .no => False
def tDT (K : PySem.W.Frag) (ec : Nat → Addr) (W : WX) (f : TF) : TT := fun σ H Q => ∃ G env, Same G H ∧ EnvR K G σ env ∧ PostB K ec W σ H Q (f env)
section
variable {K : PySem.W.Frag} {ec : Nat → Addr} {W : WX} {σ : L2.St} {G H G' H' : Hp}
theorem PostB.mono {Q : Bool → Hp → Prop} {r : R Bool} (e : Same H H') (h : PostB K ec W σ H Q r) : PostB K ec W σ H' Q r := by
  cases r with
  | ok d => exact fun H2 e2 => h H2 (e.trans e2)
  | ex c => exact fun H2 s2 => h H2 (e.trans s2)
  | no => exact h
/-- a test ahead of a datum -/
theorem PostB.bind {Q : VK} {Q' : Bool → Hp → Prop} {r : R Bool} {k : Bool → R PyData} (h : Post K ec W σ G H Q (r.bind k)) (i : Same G H) (hk : ∀ b H', r = .ok b → Same H H' → Post K ec W σ G H' Q (k b) → Q' b H') : PostB K ec W σ H Q' r := by
  cases r with
  | ok d => exact fun H' e => hk d H' rfl e (Post.mono (Ext.heap i e) h)
  | ex c => exact h
  | no => exact h
theorem PostB.bindB {Q Q' : Bool → Hp → Prop} {r : R Bool} {k : Bool → R Bool} (h : PostB K ec W σ H Q (r.bind k)) (hk : ∀ b H', r = .ok b → Same H H' → PostB K ec W σ H' Q (k b) → Q' b H') : PostB K ec W σ H Q' r := by
  cases r with
  | ok d => exact fun H' e => hk d H' rfl e (PostB.mono e h)
  | ex c => exact h
  | no => exact h
/-- a datum that is a truth -/
theorem Post.toB {Q : VK} {Q' : Bool → Hp → Prop} {r : R PyData} (h : PostB K ec W σ H Q' (PL.toB r)) (hq : ∀ b H', Same H H' → Q' b H' → Q (.bl b) H') : Post K ec W σ G H Q r := by
  cases r with
  | ok d =>
    cases d with
    | bool b =>
      intro v G' H' e p
      cases p
      exact hq b H' e.h (h H' e.h)
    | _ => exact h.elim
  | ex c => exact h
  | no => exact h
end
section
variable {X : Cx} {ec : Nat → Addr} {W : WX} {a b c e : Expr} {fa fb fc f : EF} {ft fu : TF} {pos : Pos}
theorem tTest_D {t : TE} {σ : L2.St} {H : Hp} {Q : Bool → Hp → Prop} {K : PySem.W.Frag} (k : ∀ Q : VK, tD K ec W f σ H Q → t σ H Q) : tDT K ec W (bVal f) σ H Q → tTest t σ H Q := by
  rintro ⟨G, env, s, E, p⟩
  refine k _ ⟨G, env, s, E, Post.toB p fun b H' _ q => ⟨b, rfl, q⟩⟩
theorem st_val (h : PE X e (tD X.K ec W f)) (he : ∀ whole, isTrue e X.env whole = (do let v ← whole; standAt e.pos; holding [v] (truthy v)) := by intro _; rfl) : PT X e (tDT X.K ec W (bVal f)) :=
  PT_imp (pt_val h he) fun σ H Q => tTest_D fun _ h => h
theorem st_cmp {op : CmpOp} {r : R2} {g : PyData → PyData → R PyData} (ho : OpR X (compareOp op) r) (hg : OpD X.K r g) (hx : NoEx g) (ha : PE X a (tD X.K ec W fa)) (hb : PE X b (tD X.K ec W fb)) (hm : behindInMarks op b = false) :
    PT X (.Compare a [op] [b] pos) (tDT X.K ec W (bVal (eBin g fa fb))) := PT_imp (pt_cmpR ho ha hb hm) fun σ H Q => tTest_D fun _ => tOp_D hg hx
theorem st_eq (hu : X.A.units + 64 < cLine) (ha : PE X a (tD X.K ec W fa)) (hb : PE X b (tD X.K ec W fb)) : PT X (.Compare a [.Eq] [b] pos) (tDT X.K ec W (bVal (eBin dEq fa fb))) := st_cmp (op_eqD hu) od_eq nx_eq ha hb (nomark _)
theorem st_ne (hu : X.A.units + 64 < cLine) (ha : PE X a (tD X.K ec W fa)) (hb : PE X b (tD X.K ec W fb)) : PT X (.Compare a [.NotEq] [b] pos) (tDT X.K ec W (bVal (eBin dNe fa fb))) := st_cmp (op_neD hu) od_ne nx_ne ha hb (nomark _)
theorem st_lt (ha : PE X a (tD X.K ec W fa)) (hb : PE X b (tD X.K ec W fb)) : PT X (.Compare a [.Lt] [b] pos) (tDT X.K ec W (bVal (eBin dLt fa fb))) := st_cmp op_lt od_lt nx_lt ha hb (nomark _)
theorem st_le (ha : PE X a (tD X.K ec W fa)) (hb : PE X b (tD X.K ec W fb)) : PT X (.Compare a [.LtE] [b] pos) (tDT X.K ec W (bVal (eBin dLe fa fb))) := st_cmp op_le od_le nx_le ha hb (nomark _)
theorem st_gt (ha : PE X a (tD X.K ec W fa)) (hb : PE X b (tD X.K ec W fb)) : PT X (.Compare a [.Gt] [b] pos) (tDT X.K ec W (bVal (eBin dGt fa fb))) := st_cmp op_gt od_gt nx_gt ha hb (nomark _)
theorem st_ge (ha : PE X a (tD X.K ec W fa)) (hb : PE X b (tD X.K ec W fb)) : PT X (.Compare a [.GtE] [b] pos) (tDT X.K ec W (bVal (eBin dGe fa fb))) := st_cmp op_ge od_ge nx_ge ha hb (nomark _)
theorem st_is (ha : PE X a (tD X.K ec W fa)) (hb : PE X b (tD X.K ec W fb)) : PT X (.Compare a [.Is] [b] pos) (tDT X.K ec W (bVal (eBin dIs fa fb))) := st_cmp op_isP od_is nx_is ha hb (nomark _)
theorem st_isNot (ha : PE X a (tD X.K ec W fa)) (hb : PE X b (tD X.K ec W fb)) : PT X (.Compare a [.IsNot] [b] pos) (tDT X.K ec W (bVal (eBin dIsNot fa fb))) := st_cmp op_notP od_isNot nx_isNot ha hb (nomark _)
theorem st_not (ha : PT X a (tDT X.K ec W ft)) : PT X (.UnaryOp .Not a pos) (tDT X.K ec W (bNot ft)) :=
  PT_imp (pt_not ha) fun σ H Q ⟨G, env, s, E, p⟩ => ⟨G, env, s, E, PostB.bindB p fun b H' _ _ q => q H' (Same.refl _)⟩
theorem sw_and1 (ha : PT X a (tDT X.K ec W ft)) : PW X (.BoolOp .And [a] pos) (tDT X.K ec W ft) := pw_and1 ha
theorem sw_or1 (ha : PT X a (tDT X.K ec W ft)) : PW X (.BoolOp .Or [a] pos) (tDT X.K ec W ft) := pw_or1 ha
theorem sw_and {rest : List Expr} (ha : PT X a (tDT X.K ec W ft)) (hb : PW X (.BoolOp .And (b :: rest) pos) (tDT X.K ec W fu)) : PW X (.BoolOp .And (a :: b :: rest) pos) (tDT X.K ec W (bAnd ft fu)) :=
  PW_imp (pw_and ha hb) fun σ H Q ⟨G, env, s, E, p⟩ => ⟨G, env, s, E, PostB.bindB p fun k H' _ sh q => by
    cases k with
    | true => exact iteT ⟨G, env, s.trans sh, E, q⟩
    | false => exact iteF (q H' (Same.refl _))⟩
theorem sw_or {rest : List Expr} (ha : PT X a (tDT X.K ec W ft)) (hb : PW X (.BoolOp .Or (b :: rest) pos) (tDT X.K ec W fu)) : PW X (.BoolOp .Or (a :: b :: rest) pos) (tDT X.K ec W (bOr ft fu)) :=
  PW_imp (pw_or ha hb) fun σ H Q ⟨G, env, s, E, p⟩ => ⟨G, env, s, E, PostB.bindB p fun k H' _ sh q => by
    cases k with
    | true => exact iteT (q H' (Same.refl _))
    | false => exact iteF ⟨G, env, s.trans sh, E, q⟩⟩
theorem se_one {op : BoolOp} (h : PE X a (tD X.K ec W fa)) : PE X (.BoolOp op [a] pos) (tD X.K ec W fa) := pe_one h
theorem se_and {rest : List Expr} (ha : PE X a (tD X.K ec W fa)) (hb : PE X (.BoolOp .And (b :: rest) pos) (tD X.K ec W fb)) : PE X (.BoolOp .And (a :: b :: rest) pos) (tD X.K ec W (eAnd fa fb)) :=
  PE_imp (pe_and ha hb) fun σ H Q ⟨G, env, s, E, p⟩ => ⟨G, env, s, E, Post.toB (PostB.bind (Q' := fun k H' => if k = true then tD X.K ec W fb σ H' Q else Q (.bl false) H') p s fun k H' _ sh q => by
    cases k with
    | true => exact iteT ⟨G, env, s.trans sh, E, q⟩
    | false => exact iteF (q _ G H' (Ext.refl (s.trans sh)) (.bl _))) fun k H' _ q => ⟨k, rfl, q⟩⟩
theorem se_or {rest : List Expr} (ha : PE X a (tD X.K ec W fa)) (hb : PE X (.BoolOp .Or (b :: rest) pos) (tD X.K ec W fb)) : PE X (.BoolOp .Or (a :: b :: rest) pos) (tD X.K ec W (eOr fa fb)) :=
  PE_imp (pe_or ha hb) fun σ H Q ⟨G, env, s, E, p⟩ => ⟨G, env, s, E, Post.toB (PostB.bind (Q' := fun k H' => if k = true then Q (.bl true) H' else tD X.K ec W fb σ H' Q) p s fun k H' _ sh q => by
    cases k with
    | true => exact iteT (q _ G H' (Ext.refl (s.trans sh)) (.bl _))
    | false => exact iteF ⟨G, env, s.trans sh, E, q⟩) fun k H' _ q => ⟨k, rfl, q⟩⟩
theorem se_not (ha : PE X a (tD X.K ec W fa)) : PE X (.UnaryOp .Not a pos) (tD X.K ec W (eNot fa)) :=
  PE_imp (pe_not ha) fun σ H Q ⟨G, env, s, E, p⟩ => ⟨G, env, s, E, Post.toB (PostB.bind (Q' := fun k H' => Q (.bl (!k)) H') p s fun k H' _ sh q => q _ G H' (Ext.refl (s.trans sh)) (.bl _)) fun k H' _ q => ⟨k, rfl, q⟩⟩
theorem se_if (hc : PT X c (tDT X.K ec W ft)) (ha : PE X a (tD X.K ec W fa)) (hb : PE X b (tD X.K ec W fb)) : PE X (.IfExp c a b pos) (tD X.K ec W (eIf ft fa fb)) :=
  PE_imp (pe_ifExp hc ha hb) fun σ H Q ⟨G, env, s, E, p⟩ => ⟨G, env, s, E, PostB.bind p s fun k H' _ sh q => by
    cases k with
    | true => exact iteT ⟨G, env, s.trans sh, E, q⟩
    | false => exact iteF ⟨G, env, s.trans sh, E, q⟩⟩
theorem tChain_D {K : PySem.W.Frag} {r r' : R2} {g g' : PyData → PyData → R PyData} (hg : OpD K r g) (hx : NoEx g) (hg' : OpD K r' g') (hx' : NoEx g') {σ : L2.St} {H : Hp} {Q : VK} :
    tD K ec W (eChain g g' fa fb fc) σ H Q → tChain r r' (tD K ec W fa) (tD K ec W fb) (tD K ec W fc) σ H Q := by
  rintro ⟨G, env, s, E, p⟩
  refine ⟨G, env, s, E, Post.bind p fun x dx G1 H1 _ e1 r1 p1 => ?_⟩
  refine ⟨G1, env, e1.i, E.mono e1.g, Post.bind p1 fun y dy G2 H2 _ e2 r2 p2 => ?_⟩
  cases q : g dx dy with
  | ok d =>
    rw [q] at p2
    refine hg x y dx dy d G2 H2 _ e2.i (r1.mono e2.g) r2 q fun v G3 H3 e3 r3 => ?_
    cases d with
    | bool k =>
      cases r3
      refine ⟨k, rfl, ?_⟩
      cases k with
      | true =>
        refine iteT ⟨G3, env, e3.i, (E.mono e1.g).mono (e2.g.trans e3.g), Post.bind (Post.mono e3 p2) fun z dz G4 H4 _ e4 r4 p4 => ?_⟩
        cases q' : g' dy dz with
        | ok d' => rw [q'] at p4; exact hg' y z dy dz d' G4 H4 Q e4.i (r2.mono (e3.g.trans e4.g)) r4 q' p4
        | ex c => exact absurd q' (hx' dy dz c)
        | no => rw [q'] at p4; exact p4.elim
      | false => exact iteF (Post.mono (r := .ok (.bool false)) e3 p2 _ G3 H3 (Ext.refl e3.i) (.bl _))
    | _ => exact p2.elim
  | ex c => exact absurd q (hx dx dy c)
  | no => rw [q] at p2; exact p2.elim
theorem se_chain {op op' : CmpOp} {r r' : R2} {g g' : PyData → PyData → R PyData} (ho : OpR X (compareOp op) r) (ho' : OpR X (compareOp op') r') (hg : OpD X.K r g) (hx : NoEx g) (hg' : OpD X.K r' g') (hx' : NoEx g')
    (ha : PE X a (tD X.K ec W fa)) (hb : PE X b (tD X.K ec W fb)) (hc : PE X c (tD X.K ec W fc)) (hm : lastMarks [op, op'] [b, c] = false := by with_unfolding_all rfl) :
    PE X (.Compare a [op, op'] [b, c] pos) (tD X.K ec W (eChain g g' fa fb fc)) := PE_imp (pe_chain ho ho' ha hb hc hm) fun _ _ _ => tChain_D hg hx hg' hx'
theorem st_chain {op op' : CmpOp} {r r' : R2} {g g' : PyData → PyData → R PyData} (ho : OpR X (compareOp op) r) (ho' : OpR X (compareOp op') r') (hg : OpD X.K r g) (hx : NoEx g) (hg' : OpD X.K r' g') (hx' : NoEx g')
    (ha : PE X a (tD X.K ec W fa)) (hb : PE X b (tD X.K ec W fb)) (hc : PE X c (tD X.K ec W fc)) (hm : lastMarks [op, op'] [b, c] = false := by with_unfolding_all rfl) :
    PT X (.Compare a [op, op'] [b, c] pos) (tDT X.K ec W (bVal (eChain g g' fa fb fc))) := PT_imp (pt_chain ho ho' ha hb hc hm) fun _ _ _ => tTest_D fun _ => tChain_D hg hx hg' hx'
theorem se_lele (ha : PE X a (tD X.K ec W fa)) (hb : PE X b (tD X.K ec W fb)) (hc : PE X c (tD X.K ec W fc)) (hm : lastMarks [.LtE, .LtE] [b, c] = false := by with_unfolding_all rfl) :
    PE X (.Compare a [.LtE, .LtE] [b, c] pos) (tD X.K ec W (eChain dLe dLe fa fb fc)) := se_chain op_le op_le od_le nx_le od_le nx_le ha hb hc hm
theorem st_lele (ha : PE X a (tD X.K ec W fa)) (hb : PE X b (tD X.K ec W fb)) (hc : PE X c (tD X.K ec W fc)) (hm : lastMarks [.LtE, .LtE] [b, c] = false := by with_unfolding_all rfl) :
    PT X (.Compare a [.LtE, .LtE] [b, c] pos) (tDT X.K ec W (bVal (eChain dLe dLe fa fb fc))) := st_chain op_le op_le od_le nx_le od_le nx_le ha hb hc hm
end

/-! ### argument lists, displays -/
def aAll : List EF → List (Option PyData) → R (List PyData)
  | [], _ => .ok []
  | f :: fs, env => (f env).bind fun d => (aAll fs env).bind fun ds => .ok (d :: ds)
theorem aAll_len : ∀ {fs : List EF} {env : List (Option PyData)} {ds : List PyData}, aAll fs env = .ok ds → ds.length = fs.length
  | [], _, _, h => by cases h; rfl
  | f :: fs, env, ds, h => by
    unfold aAll at h
    cases q : f env with
    | ok d =>
      rw [q] at h
      cases q2 : aAll fs env with
      | ok es => rw [q2] at h; cases h; rw [List.length_cons, List.length_cons, aAll_len q2]
      | ex c => rw [q2] at h; cases h
      | no => rw [q2] at h; cases h
    | ex c => rw [q] at h; cases h
    | no => rw [q] at h; cases h
def PostL (K : PySem.W.Frag) (ec : Nat → Addr) (W : WX) (σ : L2.St) (G H : Hp) (Q : List V → Hp → Prop) : R (List PyData) → Prop
  | .ok ds => ∀ vs G' H', Ext G H G' H' → RepA K G' vs ds → Q vs H'
  | .ex c => ∀ H', Same H H' → W (.ref (ec c)) none σ H'
  | .no => False
def tDA (K : PySem.W.Frag) (ec : Nat → Addr) (W : WX) (fs : List EF) : TA := fun σ H Q => ∃ G env, Same G H ∧ EnvR K G σ env ∧ PostL K ec W σ G H Q (aAll fs env)
def eTup (fs : List EF) (env : List (Option PyData)) : R PyData := (aAll fs env).bind fun ds => .ok (.tuple ds)
def eLst (fs : List EF) (env : List (Option PyData)) : R PyData := (aAll fs env).bind fun ds => .ok (.list ds)
def eCall (g : List PyData → R PyData) (fs : List EF) (env : List (Option PyData)) : R PyData := (aAll fs env).bind g
section
variable {K : PySem.W.Frag} {ec : Nat → Addr} {W : WX} {σ : L2.St} {G H G' H' : Hp}
theorem PostL.mono {Q : List V → Hp → Prop} {r : R (List PyData)} (e : Ext G H G' H') (h : PostL K ec W σ G H Q r) : PostL K ec W σ G' H' Q r := by
  cases r with
  | ok d => exact fun v G2 H2 e2 p => h v G2 H2 (e.trans e2) p
  | ex c => exact fun H2 s2 => h H2 (e.h.trans s2)
  | no => exact h
/-- a list of data ahead of a datum -/
theorem PostL.bind {Q : VK} {Q' : List V → Hp → Prop} {r : R (List PyData)} {k : List PyData → R PyData} (h : Post K ec W σ G H Q (r.bind k)) (hk : ∀ vs ds G' H', r = .ok ds → Ext G H G' H' → RepA K G' vs ds → Post K ec W σ G' H' Q (k ds) → Q' vs H') : PostL K ec W σ G H Q' r := by
  cases r with
  | ok d => exact fun v G' H' e p => hk v d G' H' rfl e p (Post.mono e h)
  | ex c => exact h
  | no => exact h
theorem Post.bindL {Q : VK} {Q' : List V → Hp → Prop} {r : R PyData} {k : PyData → R (List PyData)} (h : PostL K ec W σ G H Q' (r.bind k)) (hk : ∀ v d G' H', r = .ok d → Ext G H G' H' → Rep K G' v d → PostL K ec W σ G' H' Q' (k d) → Q v H') : Post K ec W σ G H Q r := by
  cases r with
  | ok d => exact fun v G' H' e p => hk v d G' H' rfl e p (PostL.mono e h)
  | ex c => exact h
  | no => exact h
theorem PostL.bindL {Q Q' : List V → Hp → Prop} {r : R (List PyData)} {k : List PyData → R (List PyData)} (h : PostL K ec W σ G H Q (r.bind k)) (hk : ∀ vs ds G' H', r = .ok ds → Ext G H G' H' → RepA K G' vs ds → PostL K ec W σ G' H' Q (k ds) → Q' vs H') : PostL K ec W σ G H Q' r := by
  cases r with
  | ok d => exact fun v G' H' e p => hk v d G' H' rfl e p (PostL.mono e h)
  | ex c => exact h
  | no => exact h
end
section
variable {X : Cx} {ec : Nat → Addr} {W : WX} {e : Expr} {es : List Expr} {f : EF} {fs : List EF} {pos : Pos}
theorem sa_nil : PA X [] (tDA X.K ec W []) := PA_imp pa_nil fun σ H Q ⟨G, env, s, E, p⟩ => p [] G H (Ext.refl s) .nil
theorem sa_cons (ha : PE X e (tD X.K ec W f)) (hr : PA X es (tDA X.K ec W fs)) (hs : starEach (e :: es) X.env = (false, eval e X.env) :: starEach es X.env := by rfl) : PA X (e :: es) (tDA X.K ec W (f :: fs)) :=
  PA_imp (pa_cons ha hr hs) fun σ H Q ⟨G, env, s, E, p⟩ => ⟨G, env, s, E, Post.bindL p fun x dx G1 H1 _ e1 r1 p1 =>
    ⟨G1, env, e1.i, E.mono e1.g, PostL.bindL p1 fun vs ds G2 H2 _ e2 r2 p2 => p2 _ G2 H2 (Ext.refl e2.i) (.cons (r1.mono e2.g) r2)⟩⟩
theorem se_tup {k : Nat} (h : PA X es (tDA X.K ec W fs)) (hl : fs.length ≤ 1000 := by exact Nat.le_of_ble_eq_true rfl) : PE X (.Tuple es k pos) (tD X.K ec W (eTup fs)) :=
  PE_imp (pe_tup h) fun σ H Q ⟨G, env, s, E, p⟩ => ⟨G, env, s, E, PostL.bind p fun vs ds G1 H1 q e1 r1 p1 => by
    have hn : vs.length ≤ 1000 := by rw [r1.length, aAll_len q]; exact hl
    exact ⟨Nat.le_of_lt (small1000 hn), fun p n => p1 _ _ _ (Ext.new e1.i n) (ext_tup e1.i n r1)⟩⟩
theorem se_lst (h : PA X es (tDA X.K ec W fs)) (hl : fs.length ≤ 1000 := by exact Nat.le_of_ble_eq_true rfl) : PE X (.List es pos) (tD X.K ec W (eLst fs)) :=
  PE_imp (pe_lst h) fun σ H Q ⟨G, env, s, E, p⟩ => ⟨G, env, s, E, PostL.bind p fun vs ds G1 H1 q e1 r1 p1 => by
    have hn : vs.length ≤ 1000 := by rw [r1.length, aAll_len q]; exact hl
    exact ⟨Nat.le_of_lt (small1000 hn), fun p n => p1 _ _ _ (Ext.new e1.i n) (ext_list e1.i n r1)⟩⟩
/-- a built-in's rule is a function on data -/
def CallD (K : PySem.W.Frag) (r : List V → Hp → VK → Prop) (g : List PyData → R PyData) : Prop :=
  ∀ (vs : List V) (ds : List PyData) (d : PyData) (G H : Hp) (Q : VK), Same G H → RepA K G vs ds → g ds = .ok d → (∀ v G' H', Ext G H G' H' → Rep K G' v d → Q v H') → r vs H Q
def NoExL (g : List PyData → R PyData) : Prop := ∀ x c, g x ≠ .ex c
theorem tCB_D {K : PySem.W.Frag} {r : List V → Hp → VK → Prop} {g : List PyData → R PyData} (hg : CallD K r g) (hx : NoExL g) {σ : L2.St} {H : Hp} {Q : VK} : tD K ec W (eCall g fs) σ H Q → tCB r (tDA K ec W fs) σ H Q := by
  rintro ⟨G, env, s, E, p⟩
  refine ⟨G, env, s, E, PostL.bind p fun vs ds G1 H1 _ e1 r1 p1 => ?_⟩
  cases q : g ds with
  | ok d => rw [q] at p1; exact hg vs ds d G1 H1 Q e1.i r1 q p1
  | ex c => exact absurd q (hx ds c)
  | no => rw [q] at p1; exact p1.elim
variable {x : Str} {p : Pos} {id T : String} {r : List V → Hp → VK → Prop} {g : List PyData → R PyData}
theorem se_callB (hc : CallR X (.builtin id) r) (hd : CallD X.K r g) (hx : NoExL g) (hg : Gl X x) (hm : X.mg x = none) (hv : bootBuiltins x = some (.builtin id)) (ha : PA X (e :: es) (tDA X.K ec W fs)) (hn : x ≠ "__name__" := by decide) (hdb : (x == ("__debug__" : Str)) = false := by decide)
    (he : starEach (e :: es) X.env = (false, eval e X.env) :: starEach es X.env := by rfl) (hpl : (backTo pos (starEach es X.env)).any (·.1) = false := by rfl) : PE X (.Call (.Name x p) (e :: es) [] pos) (tD X.K ec W (eCall g fs)) :=
  PE_imp (pe_callB hc hg hm hv ha hn hdb he hpl) fun _ _ _ => tCB_D hd hx
theorem se_callTy (hc : CallR X (.type T) r) (hd : CallD X.K r g) (hx : NoExL g) (hg : Gl X x) (hm : X.mg x = none) (hv : bootBuiltins x = some (.type T)) (ha : PA X (e :: es) (tDA X.K ec W fs)) (hn : x ≠ "__name__" := by decide) (hdb : (x == ("__debug__" : Str)) = false := by decide)
    (he : starEach (e :: es) X.env = (false, eval e X.env) :: starEach es X.env := by rfl) (hpl : (backTo pos (starEach es X.env)).any (·.1) = false := by rfl) : PE X (.Call (.Name x p) (e :: es) [] pos) (tD X.K ec W (eCall g fs)) :=
  PE_imp (pe_callTy hc hg hm hv ha hn hdb he hpl) fun _ _ _ => tCB_D hd hx
end
end PL
/-! PL, part d: own calls, environments, statements. -/
namespace PL
open PySem PySem.Spec PyProof.Rows L2

/-! ### what a def promises -/
def PostF (K : PySem.W.Frag) (ec : Nat → Addr) (G H : Hp) (Q : VK) (E : XK) : R PyData → Prop
  | .ok d => ∀ v G' H', Ext G H G' H' → Rep K G' v d → Q v H'
  | .ex c => ∀ H', Same H H' → E (.ref (ec c)) none H'
  | .no => False
def spP (K : PySem.W.Frag) (ec : Nat → Addr) (n : Nat) (g : List PyData → R PyData) : Sp := fun vs H Q E => vs.length = n ∧ ∃ G ds, Same G H ∧ RepA K G vs ds ∧ PostF K ec G H Q E (g ds)
/-- a def that may be called by its name -/
structure Cal (P : Program) (w : World) (K : PySem.W.Frag) (mg : Str → Option Value) (base : Heap) (ec : Nat → Addr) (x : Str) (n k : Nat) (g : List PyData → R PyData) : Prop where
  ex : ∃ (f : Addr) (fd : FuncData) (ps : List Str), FnOk P w K mg base (L2N.CX P w) k f fd ps (spP K ec n g) ∧ mg x = some (.ref f) ∧ PySem.W.keepIn K (.ref f) = true ∧ Binds K fd ps []
theorem takes0N {X : Cx} : L2N.Takes X (fun _ _ _ _ => False) := fun _ _ x => by
  obtain ⟨_, _, _, _, _, _, _, _, _, _, _, _, _, _, _, _, z⟩ := x
  exact z.elim
section
variable {X : Cx} {ec : Nat → Addr} {W : WX} {e : Expr} {es : List Expr} {fs : List EF} {pos p : Pos} {x : Str} {n k : Nat} {g : List PyData → R PyData}
theorem se_call (C : Cal X.prog X.w X.K X.mg X.base ec x n k g) (tk : L2N.Takes X W) (hr : Room k X.A) (hg : Gl X x) (ha : PA X (e :: es) (tDA X.K ec W fs)) (hl : fs.length = n := by rfl) (hdb : (x == ("__debug__" : Str)) = false := by decide)
    (he : starEach (e :: es) X.env = (false, eval e X.env) :: starEach es X.env := by rfl) (hpl : (backTo pos (starEach es X.env)).any (·.1) = false := by rfl) : PE X (.Call (.Name x p) (e :: es) [] pos) (tD X.K ec W (eCall g fs)) := by
  obtain ⟨f, fd, ps, F, hm, hk, hb⟩ := C.ex
  refine PE_imp (pe_callS (E := WE W) F hr hg hm hk hb (fun σ => L2N.passAt tk σ) ha hdb he hpl) fun σ H Q ⟨G, env, s, E, p⟩ => ?_
  refine ⟨G, env, s, E, PostL.bind p fun vs ds G1 H1 q e1 r1 p1 => ⟨by rw [r1.length, aAll_len q, hl], G1, ds, e1.i, r1, ?_⟩⟩
  cases q : g ds with
  | ok d => rw [q] at p1; exact p1
  | ex c => rw [q] at p1; exact p1
  | no => rw [q] at p1; exact p1
end

/-! ### environments of a body -/
inductive Sl where
  | no
  | pu (d : PyData)
  | ow (d : PyData)
def Sl.full : Sl → Option PyData
  | .no => none
  | .pu d => some d
  | .ow d => some d
def Sl.pur : Sl → Option PyData
  | .pu d => some d
  | _ => none
abbrev Ev := List Sl
def Own (K : PySem.W.Frag) (G H : Hp) (l : Addr) : PyData → Prop
  | .list ds => ∃ vs, H l = some (.lst vs) ∧ RepA K G vs ds
  | .dict ds => ∃ kvs, H l = some (.dK kvs) ∧ (kvs.map (·.1)).Nodup ∧ RepK K G kvs ds
  | _ => False
theorem Own.there {K : PySem.W.Frag} {G H : Hp} {l : Addr} {d : PyData} (h : Own K G H l d) : ∃ o, H l = some o ∧ ∀ G2 : Hp, Same G G2 → G2 l = some o → Rep K G2 (.ref l) d := by
  cases d with
  | list ds => obtain ⟨vs, h1, h2⟩ := h; exact ⟨_, h1, fun G2 e q => .lst (.of q) (h2.mono e)⟩
  | dict ds => obtain ⟨vs, h1, n, h2⟩ := h; exact ⟨_, h1, fun G2 e q => .dct q n (h2.mono e)⟩
  | _ => exact h.elim
theorem Own.mono {K : PySem.W.Frag} {G H G' H' : Hp} {l : Addr} {d : PyData} (h : Own K G H l d) (g : Same G G') (e : ∀ o, H l = some o → H' l = some o) : Own K G' H' l d := by
  cases d with
  | list ds => obtain ⟨vs, h1, h2⟩ := h; exact ⟨vs, e _ h1, h2.mono g⟩
  | dict ds => obtain ⟨vs, h1, n, h2⟩ := h; exact ⟨vs, e _ h1, n, h2.mono g⟩
  | _ => exact h.elim
structure StR (K : PySem.W.Frag) (G0 H0 G H : Hp) (σ : L2.St) (env : Ev) : Prop where
  x : Ext G0 H0 G H
  len : σ.length = env.length
  pu : ∀ (i : Nat) (d : PyData), env[i]? = some (.pu d) → ∃ v, σ[i]? = some (some v) ∧ Rep K G v d
  ow : ∀ (i : Nat) (d : PyData), env[i]? = some (.ow d) → ∃ l, σ[i]? = some (some (.ref l)) ∧ G l = none ∧ H0 l = none ∧ Own K G H l d
  dj : ∀ (i j : Nat) (d d' : PyData) (l : Addr), i ≠ j → env[i]? = some (.ow d) → env[j]? = some (.ow d') → σ[i]? = some (some (.ref l)) → σ[j]? = some (some (.ref l)) → False
section
variable {K : PySem.W.Frag} {G0 H0 G H G' H' : Hp} {σ : L2.St} {env : Ev}
theorem Ext.clean (e : Ext G H G' H') {l : Addr} {o : HO} (g : G l = none) (h : H l = some o) : G' l = none := by
  cases q : G' l with
  | none => rfl
  | some u =>
    have := e.f l (by rw [q]; simp) g
    rw [h] at this; cases this
theorem StR.grow (S : StR K G0 H0 G H σ env) (e : Ext G H G' H') : StR K G0 H0 G' H' σ env :=
  ⟨S.x.trans e, S.len, fun i d q => let ⟨v, h1, h2⟩ := S.pu i d q; ⟨v, h1, h2.mono e.g⟩,
    fun i d q => let ⟨l, h1, h2, h3, h4⟩ := S.ow i d q
      let ⟨o, ho, _⟩ := h4.there
      ⟨l, h1, e.clean h2 ho, h3, h4.mono e.g fun o => e.h l o⟩, S.dj⟩
theorem get_set {α : Type} {l : List α} {i j : Nat} {x y : α} (h : (l.set i x)[j]? = some y) : (j = i ∧ y = x) ∨ (j ≠ i ∧ l[j]? = some y) := by
  by_cases e : i = j
  · subst e
    by_cases hi : i < l.length
    · rw [List.getElem?_set_self hi] at h; cases h; exact .inl ⟨rfl, rfl⟩
    · rw [List.getElem?_eq_none (by simpa using hi)] at h; cases h
  · rw [List.getElem?_set_ne e] at h; exact .inr ⟨fun z => e z.symm, h⟩
theorem set_get {α : Type} {l : List α} {i : Nat} {x y : α} {m : List Sl} {s z : Sl} (hl : l.length = m.length) (h : (m.set i s)[i]? = some z) : (l.set i x)[i]? = some x := by
  have : i < m.length := by
    by_cases hi : i < m.length
    · exact hi
    · rw [List.getElem?_eq_none (by simpa using hi)] at h; cases h
  exact List.getElem?_set_self (by omega)
theorem StR.setP (S : StR K G0 H0 G H σ env) {i : Nat} {v : V} {d : PyData} (r : Rep K G v d) : StR K G0 H0 G H (σ.set i (some v)) (env.set i (.pu d)) := by
  refine ⟨S.x, by simpa using S.len, fun j d' q => ?_, fun j d' q => ?_, fun j k d1 d2 l hjk q1 q2 h1 h2 => ?_⟩
  · rcases get_set q with ⟨rfl, e⟩ | ⟨hj, q⟩
    · cases e
      exact ⟨v, set_get (y := some v) S.len q, r⟩
    · rw [List.getElem?_set_ne (Ne.symm hj)]; exact S.pu j d' q
  · rcases get_set q with ⟨rfl, e⟩ | ⟨hj, q⟩
    · cases e
    · rw [List.getElem?_set_ne (Ne.symm hj)]; exact S.ow j d' q
  · rcases get_set q1 with ⟨_, e⟩ | ⟨hj, q1⟩
    · cases e
    · rcases get_set q2 with ⟨_, e⟩ | ⟨hk, q2⟩
      · cases e
      · rw [List.getElem?_set_ne (Ne.symm hj)] at h1
        rw [List.getElem?_set_ne (Ne.symm hk)] at h2
        exact S.dj j k d1 d2 l hjk q1 q2 h1 h2
/-- a new owned thing at slot i -/
theorem StR.setO (S : StR K G0 H0 G H σ env) {i : Nat} {l : Addr} {d : PyData} (hg : G l = none) (h0 : H0 l = none) (o : Own K G H l d) (ap : ∀ (j : Nat) (d' : PyData), j ≠ i → env[j]? = some (.ow d') → σ[j]? = some (some (.ref l)) → False) :
    StR K G0 H0 G H (σ.set i (some (.ref l))) (env.set i (.ow d)) := by
  refine ⟨S.x, by simpa using S.len, fun j d' q => ?_, fun j d' q => ?_, fun j k d1 d2 m hjk q1 q2 h1 h2 => ?_⟩
  · rcases get_set q with ⟨rfl, e⟩ | ⟨hj, q⟩
    · cases e
    · rw [List.getElem?_set_ne (Ne.symm hj)]; exact S.pu j d' q
  · rcases get_set q with ⟨rfl, e⟩ | ⟨hj, q⟩
    · cases e
      exact ⟨l, set_get (y := some (V.ref l)) S.len q, hg, h0, o⟩
    · rw [List.getElem?_set_ne (Ne.symm hj)]; exact S.ow j d' q
  · rcases get_set q1 with ⟨ei, e⟩ | ⟨hj, q1'⟩
    · subst ei
      rcases get_set q2 with ⟨ek, _⟩ | ⟨hk, q2⟩
      · exact hjk ek.symm
      · rw [set_get (y := some (V.ref l)) S.len q1] at h1
        cases h1
        rw [List.getElem?_set_ne (Ne.symm hk)] at h2
        exact ap k d2 hk q2 h2
    · rw [List.getElem?_set_ne (Ne.symm hj)] at h1
      rcases get_set q2 with ⟨ek, _⟩ | ⟨hk, q2'⟩
      · subst ek
        rw [set_get (y := some (V.ref l)) S.len q2] at h2
        cases h2
        exact ap j d1 hj q1' h1
      · rw [List.getElem?_set_ne (Ne.symm hk)] at h2
        exact S.dj j k d1 d2 m hjk q1' q2' h1 h2
/-- the thing that slot i owns is changed -/
theorem StR.mut (S : StR K G0 H0 G H σ env) {i : Nat} {l : Addr} {d d' : PyData} {o : HO} (q : env[i]? = some (.ow d)) (hs : σ[i]? = some (some (.ref l))) (hn : Own K G (upd H l o) l d') : StR K G0 H0 G (upd H l o) σ (env.set i (.ow d')) := by
  obtain ⟨l', h1, h2, h3, h4⟩ := S.ow i d q
  rw [hs] at h1
  cases h1
  have neG : ∀ b u, G b = some u → b ≠ l := fun b u e z => by rw [z, h2] at e; cases e
  refine ⟨⟨S.x.g, fun b u e => ?_, fun b u e => ?_, S.x.f⟩, by simpa using S.len, fun j d1 p => ?_, fun j d1 p => ?_, fun j k d1 d2 m hjk q1 q2 e1 e2 => ?_⟩
  · have : b ≠ l := fun z => by rw [z, h3] at e; cases e
    rw [upd_ne this]; exact S.x.h b u e
  · rw [upd_ne (neG b u e)]; exact S.x.i b u e
  · rcases get_set p with ⟨rfl, e⟩ | ⟨hj, p⟩
    · cases e
    · exact S.pu j d1 p
  · rcases get_set p with ⟨rfl, e⟩ | ⟨hj, p⟩
    · cases e
      exact ⟨l, hs, h2, h3, hn⟩
    · obtain ⟨m, a1, a2, a3, a4⟩ := S.ow j d1 p
      have hm : m ≠ l := fun z => by
        subst z
        exact S.dj j i d1 d m hj p q a1 hs
      exact ⟨m, a1, a2, a3, a4.mono (Same.refl _) fun o' e => by rw [upd_ne hm]; exact e⟩
  · have f : ∀ {j : Nat} {d1 : PyData}, (env.set i (Sl.ow d'))[j]? = some (Sl.ow d1) → ∃ d2, env[j]? = some (Sl.ow d2) := fun {j d1} p => by
      rcases get_set p with ⟨rfl, _⟩ | ⟨_, p⟩
      · exact ⟨d, q⟩
      · exact ⟨d1, p⟩
    obtain ⟨_, q1⟩ := f q1
    obtain ⟨_, q2⟩ := f q2
    exact S.dj j k _ _ m hjk q1 q2 e1 e2
/-- what slot i owns is given up: from now on it is never changed -/
def frz (i : Nat) (env : Ev) : Ev := match env[i]? with
  | some (.ow d) => env.set i (.pu d)
  | _ => env
theorem StR.frz (S : StR K G0 H0 G H σ env) (i : Nat) : ∃ G', Same G G' ∧ StR K G0 H0 G' H σ (PL.frz i env) := by
  unfold PL.frz
  split
  · rename_i d q
    obtain ⟨l, h1, h2, h3, h4⟩ := S.ow i d q
    obtain ⟨o, ho, hr⟩ := h4.there
    have g : Same G (upd G l o) := same_new h2
    refine ⟨upd G l o, g, ⟨S.x.g.trans g, S.x.h, fun b u e => ?_, fun b e1 e2 => ?_⟩, by simpa using S.len, fun j d1 p => ?_, fun j d1 p => ?_, fun j k d1 d2 m hjk q1 q2 e1 e2 => ?_⟩
    · by_cases hb : b = l
      · subst hb; rw [upd_same] at e; cases e; exact ho
      · rw [upd_ne hb] at e; exact S.x.i b u e
    · by_cases hb : b = l
      · subst hb; exact h3
      · rw [upd_ne hb] at e1; exact S.x.f b e1 e2
    · rcases get_set p with ⟨rfl, e⟩ | ⟨hj, p⟩
      · cases e
        exact ⟨_, h1, hr _ g upd_same⟩
      · obtain ⟨v, a1, a2⟩ := S.pu j d1 p
        exact ⟨v, a1, a2.mono g⟩
    · rcases get_set p with ⟨rfl, e⟩ | ⟨hj, p⟩
      · cases e
      · obtain ⟨m, a1, a2, a3, a4⟩ := S.ow j d1 p
        have hm : m ≠ l := fun z => by
          subst z
          exact S.dj j i d1 d m hj p q a1 h1
        exact ⟨m, a1, by rw [upd_ne hm]; exact a2, a3, a4.mono g fun o' e => e⟩
    · have f : ∀ {j : Nat} {d1 : PyData}, (env.set i (Sl.pu d))[j]? = some (Sl.ow d1) → env[j]? = some (Sl.ow d1) := fun {j d1} p => by
        rcases get_set p with ⟨_, e⟩ | ⟨_, p⟩
        · cases e
        · exact p
      exact S.dj j k d1 d2 m hjk (f q1) (f q2) e1 e2
  · exact ⟨G, Same.refl _, S⟩
/-! the views -/
theorem StR.envP (S : StR K G0 H0 G H σ env) : EnvR K G σ (env.map Sl.pur) := ⟨by rw [List.length_map]; exact Nat.le_of_eq S.len.symm, fun i d q => by
  rw [List.getElem?_map] at q
  cases e : env[i]? with
  | none => rw [e] at q; cases q
  | some s =>
    rw [e] at q
    cases s with
    | pu d' => cases q; exact S.pu i _ e
    | _ => cases q⟩
open Classical in
/-- the view with all that is owned -/
noncomputable def viewF (G H : Hp) (σ : L2.St) (env : Ev) : Hp := fun b => if ∃ (i : Nat) (d : PyData), env[i]? = some (.ow d) ∧ σ[i]? = some (some (.ref b)) then H b else G b
theorem StR.viewG (S : StR K G0 H0 G H σ env) : Same G (viewF G H σ env) := fun b o e => by
  unfold viewF
  split
  · exact S.x.i b o e
  · exact e
theorem StR.viewH (S : StR K G0 H0 G H σ env) : Same (viewF G H σ env) H := fun b o e => by
  unfold viewF at e
  split at e
  · exact e
  · exact S.x.i b o e
theorem StR.envF (S : StR K G0 H0 G H σ env) : EnvR K (viewF G H σ env) σ (env.map Sl.full) := ⟨by rw [List.length_map]; exact Nat.le_of_eq S.len.symm, fun i d q => by
  rw [List.getElem?_map] at q
  cases e : env[i]? with
  | none => rw [e] at q; cases q
  | some s =>
    rw [e] at q
    cases s with
    | no => cases q
    | pu d' =>
      cases q
      obtain ⟨v, h1, h2⟩ := S.pu i _ e
      exact ⟨v, h1, h2.mono S.viewG⟩
    | ow d' =>
      cases q
      obtain ⟨l, h1, h2, h3, h4⟩ := S.ow i _ e
      obtain ⟨o, ho, hr⟩ := h4.there
      refine ⟨_, h1, hr _ S.viewG ?_⟩
      unfold viewF
      rw [if_pos ⟨i, _, e, h1⟩]
      exact ho⟩
/-- leaving the body with all that is owned -/
theorem StR.out (S : StR K G0 H0 G H σ env) (e : Ext (viewF G H σ env) H G' H') : Ext G0 H0 G' H' := by
  refine ⟨(S.x.g.trans S.viewG).trans e.g, S.x.h.trans e.h, e.i, fun b h1 h2 => ?_⟩
  cases q : viewF G H σ env b with
  | none => exact S.x.h.free (e.f b h1 q)
  | some o =>
    unfold viewF at q
    split at q
    · rename_i hx
      obtain ⟨i, d, a, c⟩ := hx
      obtain ⟨l, h1', _, h3, _⟩ := S.ow i d a
      rw [c] at h1'
      cases h1'
      exact h3
    · exact S.x.f b (by rw [q]; simp) h2
end

/-! ### expressions within a body: P (what is owned is hidden), A (all is seen, the answer is no object) -/
def atomic : PyData → Bool
  | .none => true
  | .bool _ => true
  | .int _ => true
  | .str _ => true
  | _ => false
theorem atomic_rep {K : PySem.W.Frag} {G G' : Hp} {v : V} {d : PyData} (h : Rep K G v d) (a : atomic d = true) : Rep K G' v d := by
  cases h with
  | non => exact .non
  | bl b => exact .bl b
  | int i => exact .int i
  | str x => exact .str x
  | _ => cases a
inductive Md where
  | P
  | A
def evM : Md → EF → Ev → R PyData
  | .P, f, env => f (env.map Sl.pur)
  | .A, f, env => (f (env.map Sl.full)).bind fun d => if atomic d = true then .ok d else .no
def PostE (K : PySem.W.Frag) (ec : Nat → Addr) (W : WX) (G0 H0 G : Hp) (σ : L2.St) (env : Ev) (Q : VK) : R PyData → Prop
  | .ok d => ∀ v G' H', Same G G' → StR K G0 H0 G' H' σ env → Rep K G' v d → Q v H'
  | .ex c => ∀ H', Same H0 H' → W (.ref (ec c)) none σ H'
  | .no => False
section
variable {K : PySem.W.Frag} {ec : Nat → Addr} {W : WX} {G0 H0 G H : Hp} {σ : L2.St} {env : Ev} {Q : VK}
theorem tD_M {m : Md} {f : EF} (S : StR K G0 H0 G H σ env) (h : PostE K ec W G0 H0 G σ env Q (evM m f env)) : tD K ec W f σ H Q := by
  cases m with
  | P =>
    refine ⟨G, _, S.x.i, S.envP, ?_⟩
    have h : PostE K ec W G0 H0 G σ env Q (f (env.map Sl.pur)) := h
    cases q : f (env.map Sl.pur) with
    | ok d => rw [q] at h; exact fun v G' H' e r => h v G' H' e.g (S.grow e) r
    | ex c => rw [q] at h; exact fun H' s => h H' (S.x.h.trans s)
    | no => rw [q] at h; exact h
  | A =>
    refine ⟨_, _, S.viewH, S.envF, ?_⟩
    have h : PostE K ec W G0 H0 G σ env Q ((f (env.map Sl.full)).bind fun d => if atomic d = true then .ok d else .no) := h
    cases q : f (env.map Sl.full) with
    | ok d =>
      rw [q] at h
      rw [R.bind_ok] at h
      split at h
      · rename_i ha
        exact fun v G' H' e r => h v G H' (Same.refl _) (S.grow (Ext.heap S.x.i e.h)) (atomic_rep r ha)
      · exact h.elim
    | ex c => rw [q] at h; exact fun H' s => h H' (S.x.h.trans s)
    | no => rw [q] at h; exact h
end

/-! ### statements -/
inductive Out where
  | nx (e : Ev)
  | rt (d : PyData)
  | bk (e : Ev)
  | ct (e : Ev)
  | ex (c : Nat)
  | no
abbrev SF := Ev → Out
def R.out (r : R PyData) (k : PyData → Out) : Out := match r with
  | .ok d => k d
  | .ex c => .ex c
  | .no => .no
def R.outB (r : R Bool) (k : Bool → Out) : Out := match r with
  | .ok d => k d
  | .ex c => .ex c
  | .no => .no
def R.outL (r : R (List PyData)) (k : List PyData → Out) : Out := match r with
  | .ok d => k d
  | .ex c => .ex c
  | .no => .no
@[simp] theorem R.out_ok (d : PyData) (k : PyData → Out) : (R.ok d).out k = k d := rfl
@[simp] theorem R.outB_ok (d : Bool) (k : Bool → Out) : (R.ok d).outB k = k d := rfl
@[simp] theorem R.outL_ok (d : List PyData) (k : List PyData → Out) : (R.ok d).outL k = k d := rfl
@[simp] theorem R.out_ex (c : Nat) (k : PyData → Out) : (R.ex c : R PyData).out k = .ex c := rfl
@[simp] theorem R.outB_ex (c : Nat) (k : Bool → Out) : (R.ex c : R Bool).outB k = .ex c := rfl
@[simp] theorem R.outL_ex (c : Nat) (k : List PyData → Out) : (R.ex c : R (List PyData)).outL k = .ex c := rfl
def PostS (K : PySem.W.Frag) (ec : Nat → Addr) (W : WX) (G0 H0 G : Hp) (D : Ends) : Out → Prop
  | .nx e => ∀ σ' G' H', Same G G' → StR K G0 H0 G' H' σ' e → D.nx σ' H'
  | .rt d => ∀ v G' H', Ext G0 H0 G' H' → Rep K G' v d → D.rt v H'
  | .bk e => ∀ σ' G' H', Same G G' → StR K G0 H0 G' H' σ' e → D.bk σ' H'
  | .ct e => ∀ σ' G' H', Same G G' → StR K G0 H0 G' H' σ' e → D.ct σ' H'
  | .ex c => ∀ σ' H', Same H0 H' → W (.ref (ec c)) none σ' H'
  | .no => False
def tDS (K : PySem.W.Frag) (ec : Nat → Addr) (W : WX) (G0 H0 : Hp) (f : SF) : TS := fun D σ H => ∃ G env, StR K G0 H0 G H σ env ∧ PostS K ec W G0 H0 G D (f env)
def sNil (env : Ev) : Out := .nx env
def Out.bind : Out → SF → Out
  | .nx e, k => k e
  | .rt d, _ => .rt d
  | .bk e, _ => .bk e
  | .ct e, _ => .ct e
  | .ex c, _ => .ex c
  | .no, _ => .no
@[simp] theorem Out.bind_nx (e : Ev) (k : SF) : (Out.nx e).bind k = k e := rfl
@[simp] theorem Out.bind_rt (d : PyData) (k : SF) : (Out.rt d).bind k = .rt d := rfl
@[simp] theorem Out.bind_ex (c : Nat) (k : SF) : (Out.ex c).bind k = .ex c := rfl
@[simp] theorem Out.bind_ct (e : Ev) (k : SF) : (Out.ct e).bind k = .ct e := rfl
@[simp] theorem Out.bind_bk (e : Ev) (k : SF) : (Out.bk e).bind k = .bk e := rfl
/-- behind a turn of a loop -/
def Out.loop : Out → SF → Out
  | .nx e, k => k e
  | .ct e, k => k e
  | .bk e, _ => .nx e
  | .rt d, _ => .rt d
  | .ex c, _ => .ex c
  | .no, _ => .no
@[simp] theorem Out.loop_nx (e : Ev) (k : SF) : (Out.nx e).loop k = k e := rfl
@[simp] theorem Out.loop_ct (e : Ev) (k : SF) : (Out.ct e).loop k = k e := rfl
@[simp] theorem Out.loop_bk (e : Ev) (k : SF) : (Out.bk e).loop k = .nx e := rfl
@[simp] theorem Out.loop_rt (d : PyData) (k : SF) : (Out.rt d).loop k = .rt d := rfl
@[simp] theorem Out.loop_ex (c : Nat) (k : SF) : (Out.ex c).loop k = .ex c := rfl
def sSeq (f g : SF) (env : Ev) : Out := (f env).bind g
def sRet (f : EF) (env : Ev) : Out := (f (env.map Sl.full)).out fun d => .rt d
def sRetN (_ : Ev) : Out := .rt .none
def sAsg (m : Md) (i : Nat) (f : EF) (env : Ev) : Out := (evM m f env).out fun d => .nx (env.set i (.pu d))
def sIf (t : TF) (f g : SF) (env : Ev) : Out := (t (env.map Sl.full)).outB fun b => (if b then f else g) env
def sExpr (f : EF) (env : Ev) : Out := (f (env.map Sl.full)).out fun _ => .nx env
def sBrk (env : Ev) : Out := .bk env
def sCt (env : Ev) : Out := .ct env
section
variable {K : PySem.W.Frag} {ec : Nat → Addr} {W : WX} {G0 H0 G G' H : Hp} {D : Ends} {σ : L2.St} {env : Ev}
theorem PostS.mono {o : Out} (g : Same G G') (h : PostS K ec W G0 H0 G D o) : PostS K ec W G0 H0 G' D o := by
  cases o with
  | nx e => exact fun σ' G2 H' e2 => h σ' G2 H' (g.trans e2)
  | bk e => exact fun σ' G2 H' e2 => h σ' G2 H' (g.trans e2)
  | ct e => exact fun σ' G2 H' e2 => h σ' G2 H' (g.trans e2)
  | rt d => exact h
  | ex c => exact h
  | no => exact h
theorem PostE.out {r : R PyData} {k : PyData → Out} {Q : VK} (h : PostS K ec W G0 H0 G D (r.out k)) (hk : ∀ v d G' H', r = .ok d → Same G G' → StR K G0 H0 G' H' σ env → Rep K G' v d → PostS K ec W G0 H0 G' D (k d) → Q v H') : PostE K ec W G0 H0 G σ env Q r := by
  cases r with
  | ok d => exact fun v G' H' g S r => hk v d G' H' rfl g S r (PostS.mono g h)
  | ex c => exact fun H' s => h σ H' s
  | no => exact h
/-- an expression of which all is seen, its value is not kept -/
theorem tD_F {f : EF} {k : PyData → Out} {Q : VK} (S : StR K G0 H0 G H σ env) (h : PostS K ec W G0 H0 G D ((f (env.map Sl.full)).out k)) (hk : ∀ v d G' H', Ext (viewF G H σ env) H G' H' → Rep K G' v d → PostS K ec W G0 H0 G D (k d) → Q v H') : tD K ec W f σ H Q := by
  refine ⟨_, _, S.viewH, S.envF, ?_⟩
  cases q : f (env.map Sl.full) with
  | ok d => rw [q] at h; exact fun v G' H' e r => hk v d G' H' e r h
  | ex c => rw [q] at h; exact fun H' s => h σ H' (S.x.h.trans s)
  | no => rw [q] at h; exact h
theorem tDT_F {f : TF} {k : Bool → Out} {Q : Bool → Hp → Prop} (S : StR K G0 H0 G H σ env) (h : PostS K ec W G0 H0 G D ((f (env.map Sl.full)).outB k)) (hk : ∀ b H', Same H H' → StR K G0 H0 G H' σ env → PostS K ec W G0 H0 G D (k b) → Q b H') : tDT K ec W f σ H Q := by
  refine ⟨_, _, S.viewH, S.envF, ?_⟩
  cases q : f (env.map Sl.full) with
  | ok d => rw [q] at h; exact fun H' e => hk d H' e (S.grow (Ext.heap S.x.i e)) h
  | ex c => rw [q] at h; exact fun H' s => h σ H' (S.x.h.trans s)
  | no => rw [q] at h; exact h
end
section
variable {X : Cx} {ec : Nat → Addr} {W : WX} {G0 H0 : Hp} {e c : Expr} {st : Stmt} {rest body els : List Stmt} {f g : SF} {fe : EF} {ft : TF} {pos : Pos}
theorem ss_nil : PSs X [] (tDS X.K ec W G0 H0 sNil) := PSs_imp pss_nil fun D σ H ⟨G, env, S, p⟩ => p σ G H (Same.refl _) S
theorem ss_cons (h1 : PS X st (tDS X.K ec W G0 H0 f)) (h2 : PSs X rest (tDS X.K ec W G0 H0 g)) : PSs X (st :: rest) (tDS X.K ec W G0 H0 (sSeq f g)) := by
  refine PSs_imp (pss_cons h1 h2) fun D σ H ⟨G, env, S, p⟩ => ⟨G, env, S, ?_⟩
  unfold sSeq at p
  cases q : f env with
  | nx e => rw [q] at p; exact fun σ' G' H' s' S' => ⟨G', e, S', PostS.mono s' p⟩
  | rt d => rw [q] at p; exact p
  | bk e => rw [q] at p; exact p
  | ct e => rw [q] at p; exact p
  | ex c => rw [q] at p; exact p
  | no => rw [q] at p; exact p
theorem ss_one (h1 : PS X st (tDS X.K ec W G0 H0 f)) : PSs X [st] (tDS X.K ec W G0 H0 f) := pss_one h1
/-- what slot i owns is given up ahead of the rest -/
def sFrz (i : Nat) (f : SF) (env : Ev) : Out := f (frz i env)
theorem ss_frz (i : Nat) (h : PSs X rest (tDS X.K ec W G0 H0 f)) : PSs X rest (tDS X.K ec W G0 H0 (sFrz i f)) :=
  PSs_imp h fun D σ H ⟨G, env, S, p⟩ => let ⟨G', g, S'⟩ := S.frz i; ⟨G', _, S', PostS.mono g p⟩
theorem ss_pass : PS X (.Pass pos) (tDS X.K ec W G0 H0 sNil) := PS_imp ps_pass fun D σ H ⟨G, env, S, p⟩ => p σ G H (Same.refl _) S
theorem ss_brk : PS X (.Break pos) (tDS X.K ec W G0 H0 sBrk) := PS_imp ps_break fun D σ H ⟨G, env, S, p⟩ => p σ G H (Same.refl _) S
theorem ss_ct : PS X (.Continue pos) (tDS X.K ec W G0 H0 sCt) := PS_imp ps_continue fun D σ H ⟨G, env, S, p⟩ => p σ G H (Same.refl _) S
theorem ss_ret (he : PE X e (tD X.K ec W fe)) : PS X (.Return (some e) pos) (tDS X.K ec W G0 H0 (sRet fe)) :=
  PS_imp (ps_ret he) fun D σ H ⟨G, env, S, p⟩ => tD_F S p fun v d G' H' e r p' => p' v G' H' (S.out e) r
theorem ss_retN : PS X (.Return none pos) (tDS X.K ec W G0 H0 sRetN) :=
  PS_imp ps_retN fun D σ H ⟨G, env, S, p⟩ => p _ G H S.x .non
theorem ss_expr (he : PE X e (tD X.K ec W fe)) (hs : swapsWith e none pos.line X.env = pure false := by rfl) : PS X (.Expr e pos) (tDS X.K ec W G0 H0 (sExpr fe)) :=
  PS_imp (ps_expr he hs) fun D σ H ⟨G, env, S, p⟩ => tD_F S p fun v d G' H' e r p' => p' σ G H' (Same.refl _) (S.grow (Ext.heap S.x.i e.h))
theorem ss_if (hc : PT X c (tDT X.K ec W ft)) (ha : PSs X body (tDS X.K ec W G0 H0 f)) (hb : PSs X els (tDS X.K ec W G0 H0 g)) : PS X (.If c body els pos) (tDS X.K ec W G0 H0 (sIf ft f g)) :=
  PS_imp (ps_if hc ha hb) fun D σ H ⟨G, env, S, p⟩ => tDT_F S p fun b H' _ S' p' => by
    cases b with
    | true => exact iteT ⟨G, env, S', p'⟩
    | false => exact iteF ⟨G, env, S', p'⟩
theorem ss_set (m : Md) {i : Nat} {x : Str} {pos' : Pos} (hN : X.N.Nodup) (he : PE X e (tD X.K ec W fe)) (hi : X.N[i]? = some x := by rfl) (hx : Loc X.env.scope x := by first | exact Or.inl rfl | exact Or.inr rfl) (hs : swapsWith e (some (.Name x pos')) pos.line X.env = pure false := by rfl)
    (hf : X.fn x = true ∨ X.env.scope.names.lookup x = some .local := by first | exact .inl rfl | exact .inr rfl | assumption) : PS X (.Assign [.Name x pos'] e pos) (tDS X.K ec W G0 H0 (sAsg m i fe)) :=
  PS_imp (ps_set (i := i) hN hi hx he hs hf) fun D σ H ⟨G, env, S, p⟩ => tD_M (m := m) S (PostE.out p fun v d G' H' _ g S' r p' => p' _ G' H' (Same.refl _) (S'.setP r))
end
end PL
/-! PL, part e: walks, loops, comprehensions, what is new, the body of a def. -/
namespace PL
open PySem PySem.Spec PyProof.Rows L2

/-! ### walks -/
/-- while the view G stands, J gives the data ds one after the other -/
structure WalkD (K : PySem.W.Frag) (G : Hp) (J : It) (ds : List PyData) : Prop where
  go : ∀ i H, i < ds.length → Same G H → J.go i H
  stop : ∀ H, Same G H → J.stop ds.length H
  yld : ∀ i Gc H x H' d, ds[i]? = some d → Same G Gc → Same Gc H → J.yld i H x H' → ∃ Gc', Ext Gc H Gc' H' ∧ Rep K Gc' x d
def enumF : Nat → List PyData → List PyData
  | _, [] => []
  | n, d :: ds => .tuple [.int n, d] :: enumF (n + 1) ds
theorem enumF_get : ∀ (ds : List PyData) (n i : Nat), (enumF n ds)[i]? = ds[i]?.map fun d => .tuple [.int ((n + i : Nat) : Int), d]
  | [], _, _ => by simp [enumF]
  | d :: ds, n, 0 => by simp [enumF]
  | d :: ds, n, i + 1 => by
    unfold enumF
    rw [List.getElem?_cons_succ, List.getElem?_cons_succ, enumF_get ds (n + 1) i, show n + 1 + i = n + (i + 1) by omega]
theorem enumF_len : ∀ (ds : List PyData) (n : Nat), (enumF n ds).length = ds.length
  | [], _ => rfl
  | d :: ds, n => by unfold enumF; rw [List.length_cons, List.length_cons, enumF_len ds]
def rngF (lo : Int) (n : Nat) : List PyData := (List.range n).map fun (i : Nat) => .int (lo + (i : Int))
def rngC (lo c : Int) (n : Nat) : List PyData := (List.range n).map fun (i : Nat) => .int (lo + (i : Int) * c)
def zipF (xs ys : List PyData) : List PyData := List.zipWith (fun a b => .tuple [a, b]) xs ys
def signsF (z : Str) : List PyData := z.cps.toList.map fun c => .str ⟨#[c]⟩
section
variable {K : PySem.W.Frag} {G : Hp} {a b : Addr} {xs ys : List V} {ds es : List PyData}
theorem wd_list (h : LsL K G a xs) (r : RepA K G xs ds) : WalkD K G (Itl K a) ds := by
  have hl := r.length
  refine ⟨fun i H hi s => walk_list.goes i H (by omega) ((ls_same s h).sq), fun H s => ?_, fun i Gc H x H' d q sG sH y => ?_⟩
  · have := (walk_list (K := K) (a := a) (xs := xs)).stops H ((ls_same s h).sq)
    rwa [hl] at this
  · have hi : i < ds.length := (List.getElem?_eq_some_iff.mp q).1
    obtain ⟨e, hx⟩ := walk_list.yields i H x H' (by omega) ((ls_same (sG.trans sH) h).sq) y
    obtain ⟨v, hv, rv⟩ := r.get q
    rw [hx] at hv
    cases hv
    subst e
    exact ⟨Gc, Ext.refl sH, rv.mono sG⟩
theorem wd_tup (h : SqT K G a xs) (r : RepA K G xs ds) : WalkD K G (Itt K a) ds := by
  have hl := r.length
  refine ⟨fun i H hi s => walk_tup.goes i H (by omega) (sqT_same s h), fun H s => ?_, fun i Gc H x H' d q sG sH y => ?_⟩
  · have := (walk_tup (K := K) (a := a) (xs := xs)).stops H (sqT_same s h)
    rwa [hl] at this
  · have hi : i < ds.length := (List.getElem?_eq_some_iff.mp q).1
    obtain ⟨e, hx⟩ := walk_tup.yields i H x H' (by omega) (sqT_same (sG.trans sH) h) y
    obtain ⟨v, hv, rv⟩ := r.get q
    rw [hx] at hv
    cases hv
    subst e
    exact ⟨Gc, Ext.refl sH, rv.mono sG⟩
theorem wd_range {lo : Int} {n : Nat} : WalkD K G (Itr lo n) (rngF lo n) := by
  have hl : (rngF lo n).length = n := by simp [rngF]
  refine ⟨fun i H hi s => walk_range.goes i H (by omega) trivial, fun H s => ?_, fun i Gc H x H' d q sG sH y => ?_⟩
  · rw [hl]; exact walk_range.stops H trivial
  · have hi : i < (rngF lo n).length := (List.getElem?_eq_some_iff.mp q).1
    obtain ⟨e, hx⟩ := walk_range.yields i H x H' (by omega) trivial y
    subst e hx
    have : d = .int (lo + i) := by
      rw [hl] at hi
      simp [rngF, hi] at q
      exact q.symm
    subst this
    exact ⟨Gc, Ext.refl sH, .int _⟩
theorem wd_rangeC {lo c : Int} {n : Nat} : WalkD K G (Itc lo c n) (rngC lo c n) := by
  have hl : (rngC lo c n).length = n := by simp [rngC]
  refine ⟨fun i H hi s => walk_rangeC.goes i H (by omega) trivial, fun H s => ?_, fun i Gc H x H' d q sG sH y => ?_⟩
  · rw [hl]; exact walk_rangeC.stops H trivial
  · have hi : i < (rngC lo c n).length := (List.getElem?_eq_some_iff.mp q).1
    obtain ⟨e, hx⟩ := walk_rangeC.yields i H x H' (by omega) trivial y
    subst e hx
    have : d = .int (lo + (i : Nat) * c) := by
      rw [hl] at hi
      simp [rngC, hi] at q
      exact q.symm
    subst this
    exact ⟨Gc, Ext.refl sH, .int _⟩
theorem wd_str {z : Str} : WalkD K G (Its z) (signsF z) := by
  have hl : (signsF z).length = z.cps.size := by simp [signsF]
  refine ⟨fun i H hi s => walk_str.goes i H (by omega) trivial, fun H s => ?_, fun i Gc H x H' d q sG sH y => ?_⟩
  · rw [hl]; exact walk_str.stops H trivial
  · have hi : i < (signsF z).length := (List.getElem?_eq_some_iff.mp q).1
    obtain ⟨e, c, hc, hx⟩ := walk_str.yields i H x H' (by omega) trivial y
    subst e hx
    have : d = .str ⟨#[c]⟩ := by
      simp [signsF, hc] at q
      exact q.symm
    subst this
    exact ⟨Gc, Ext.refl sH, .str _⟩
theorem pair_rep {Gc H H' : Hp} {x y v : V} {T : Addr} {d e : PyData} (s : Same Gc H) (n : H T = none) (rx : Rep K Gc x d) (ry : Rep K Gc y e) (hv : v = .ref T) (hH : H' = upd H T (.tup [x, y])) : ∃ Gc', Ext Gc H Gc' H' ∧ Rep K Gc' v (.tuple [d, e]) := by
  subst hv hH
  exact ⟨_, Ext.new s n, ext_tup s n (.cons rx (.cons ry .nil))⟩
theorem wd_enum (h : LsL K G a xs) (r : RepA K G xs ds) : WalkD K G (Ite K a) (enumF 0 ds) := by
  have hl := r.length
  have he := enumF_len ds 0
  refine ⟨fun i H hi s => walk_enum.goes i H (by omega) ((ls_same s h).sq), fun H s => ?_, fun i Gc H x H' d q sG sH y => ?_⟩
  · have := (walk_enum (K := K) (a := a) (xs := xs)).stops H ((ls_same s h).sq)
    rwa [hl, ← he] at this
  · have hi : i < (enumF 0 ds).length := (List.getElem?_eq_some_iff.mp q).1
    obtain ⟨T, u, v, e1, e2, e3, e4, e5⟩ := walk_enum.yields i H x H' (by omega) ((ls_same (sG.trans sH) h).sq) y
    rw [enumF_get] at q
    cases qd : ds[i]? with
    | none => rw [qd] at q; cases q
    | some d' =>
      rw [qd] at q
      simp only [Option.map_some, Option.some.injEq, Nat.zero_add] at q
      subst q
      obtain ⟨w, hw, rw'⟩ := r.get qd
      have e5 : xs[i]? = some v := e5
      rw [e5] at hw
      cases hw
      have e4 : some (V.int (i : Nat)) = some u := e4
      cases e4
      exact pair_rep sH e2 (.int _) (rw'.mono sG) e1 e3
theorem wd_zip (h : LsL K G a xs) (r : RepA K G xs ds) (h2 : LsL K G b ys) (r2 : RepA K G ys es) : WalkD K G (Itz K a b) (zipF ds es) := by
  have hl := r.length
  have hl2 := r2.length
  have he : (zipF ds es).length = min xs.length ys.length := by simp [zipF, hl, hl2]
  have w : Walk (Itz K a b) (zipF ds es).length (fun H => SqL K H a xs ∧ SqL K H b ys) (YPair (fun i => xs[i]?) (fun i => ys[i]?)) := walk_zip he
  have sq : ∀ H, Same G H → SqL K H a xs ∧ SqL K H b ys := fun H s => ⟨(ls_same s h).sq, (ls_same s h2).sq⟩
  refine ⟨fun i H hi s => w.goes i H hi (sq H s), fun H s => w.stops H (sq H s), fun i Gc H x H' d q sG sH y => ?_⟩
  have hi : i < (zipF ds es).length := (List.getElem?_eq_some_iff.mp q).1
  obtain ⟨T, u, v, e1, e2, e3, e4, e5⟩ := w.yields i H x H' hi (sq H (sG.trans sH)) y
  have hi2 : i < ds.length ∧ i < es.length := by omega
  have q1 : ds[i]? = some ds[i] := by simp [hi2.1]
  have q2 : es[i]? = some es[i] := by simp [hi2.2]
  have : d = .tuple [ds[i], es[i]] := by
    unfold zipF at q
    rw [List.getElem?_zipWith, q1, q2] at q
    exact (Option.some.inj q).symm
  subst this
  obtain ⟨w1, hw1, rw1⟩ := r.get q1
  obtain ⟨w2, hw2, rw2⟩ := r2.get q2
  have e4 : xs[i]? = some u := e4
  have e5 : ys[i]? = some v := e5
  rw [e4] at hw1
  rw [e5] at hw2
  cases hw1
  cases hw2
  exact pair_rep sH e2 (rw1.mono sG) (rw2.mono sG) e1 e3
end
abbrev LF := List (Option PyData) → R (List PyData)
def PostI (K : PySem.W.Frag) (ec : Nat → Addr) (W : WX) (σ : L2.St) (G H : Hp) (Q : It → Hp → Prop) : R (List PyData) → Prop
  | .ok ds => ∀ J G' H', Ext G H G' H' → WalkD K G' J ds → Q J H'
  | .ex c => ∀ H', Same H H' → W (.ref (ec c)) none σ H'
  | .no => False
def tDI (K : PySem.W.Frag) (ec : Nat → Addr) (W : WX) (f : LF) : TI := fun σ H Q => ∃ G env, Same G H ∧ EnvR K G σ env ∧ PostI K ec W σ G H Q (f env)
theorem PI_imp {X : Cx} {tg e : Expr} {t t' : TI} (h : PI X tg e t) (k : ∀ σ H Q, t' σ H Q → t σ H Q) : PI X tg e t' := ⟨fun pins s σ H Q I q => h.run pins s σ H Q I (k _ _ _ q)⟩
def itemsOf : PyData → R (List PyData)
  | .list ds => .ok ds
  | .tuple ds => .ok ds
  | .str z => .ok (signsF z)
  | _ => .no
def rng1 : List PyData → R (List PyData)
  | [.int n] => if -1000000 < n ∧ n < 1000000 then .ok (rngF 0 n.toNat) else .no
  | _ => .no
def rng2 : List PyData → R (List PyData)
  | [.int a, .int b] => if -1000000 < a ∧ a < 1000000 ∧ -1000000 < b ∧ b < 1000000 then .ok (rngF a (b - a).toNat) else .no
  | _ => .no
def zip2 : List PyData → R (List PyData)
  | [.list a, .list b] => .ok (zipF a b)
  | _ => .no
def enum1 : List PyData → R (List PyData)
  | [.list a] => .ok (enumF 0 a)
  | _ => .no
def iSeq (f : EF) (env : List (Option PyData)) : R (List PyData) := (f env).bind itemsOf
def iCall (g : List PyData → R (List PyData)) (fs : List EF) (env : List (Option PyData)) : R (List PyData) := (aAll fs env).bind g
section
variable {K : PySem.W.Frag} {ec : Nat → Addr} {W : WX} {σ : L2.St} {G H : Hp} {Q : It → Hp → Prop}
theorem PostI.mono {G' H' : Hp} {r : R (List PyData)} (e : Ext G H G' H') (h : PostI K ec W σ G H Q r) : PostI K ec W σ G' H' Q r := by
  cases r with
  | ok d => exact fun v G2 H2 e2 p => h v G2 H2 (e.trans e2) p
  | ex c => exact fun H2 s2 => h H2 (e.h.trans s2)
  | no => exact h
theorem PostI.bind {Q' : VK} {r : R PyData} {k : PyData → R (List PyData)} (h : PostI K ec W σ G H Q (r.bind k)) (hk : ∀ v d G' H', r = .ok d → Ext G H G' H' → Rep K G' v d → PostI K ec W σ G' H' Q (k d) → Q' v H') : Post K ec W σ G H Q' r := by
  cases r with
  | ok d => exact fun v G' H' e p => hk v d G' H' rfl e p (PostI.mono e h)
  | ex c => exact h
  | no => exact h
theorem PostI.bindL {Q' : List V → Hp → Prop} {r : R (List PyData)} {k : List PyData → R (List PyData)} (h : PostI K ec W σ G H Q (r.bind k)) (hk : ∀ v d G' H', r = .ok d → Ext G H G' H' → RepA K G' v d → PostI K ec W σ G' H' Q (k d) → Q' v H') : PostL K ec W σ G H Q' r := by
  cases r with
  | ok d => exact fun v G' H' e p => hk v d G' H' rfl e p (PostI.mono e h)
  | ex c => exact h
  | no => exact h
end
section
variable {X : Cx} {ec : Nat → Addr} {W : WX} {tg e e2 e3 : Expr} {f : EF} {fs : List EF} {p pos tpos : Pos} {elts : List Expr} {kk : Nat}
theorem si_seq (he : PE X e (tD X.K ec W f)) : PI X tg e (tDI X.K ec W (iSeq f)) := by
  refine ⟨fun pins s σ H Q I h => ?_⟩
  obtain ⟨G, env, sg, E, p⟩ := h
  cases q : f env with
  | ex c =>
    refine (pi_list he).run pins s σ H Q I ⟨G, env, sg, E, ?_⟩
    have p : PostI X.K ec W σ G H Q ((f env).bind itemsOf) := p
    rw [q] at p ⊢
    exact p
  | no =>
    have p : PostI X.K ec W σ G H Q ((f env).bind itemsOf) := p
    rw [q] at p
    exact p.elim
  | ok d =>
    have p : PostI X.K ec W σ G H Q ((f env).bind itemsOf) := p
    cases d with
    | list ds =>
      refine (pi_list he).run pins s σ H Q I ⟨G, env, sg, E, PostI.bind p fun v d G' H' q' e1 r1 p1 => ?_⟩
      rw [q] at q'
      cases q'
      cases r1 with
      | @lst a xs _ ha r => exact ⟨a, rfl, ⟨xs, (ls_same e1.i ha).sq⟩, p1 _ G' H' (Ext.refl e1.i) (wd_list ha r)⟩
    | tuple ds =>
      refine (pi_tup he).run pins s σ H Q I ⟨G, env, sg, E, PostI.bind p fun v d G' H' q' e1 r1 p1 => ?_⟩
      rw [q] at q'
      cases q'
      cases r1 with
      | @tup a xs _ ha r => exact ⟨a, rfl, ⟨xs, sqT_same e1.i ha⟩, p1 _ G' H' (Ext.refl e1.i) (wd_tup ha r)⟩
    | str z =>
      refine (pi_str he).run pins s σ H Q I ⟨G, env, sg, E, PostI.bind p fun v d G' H' q' e1 r1 p1 => ?_⟩
      rw [q] at q'
      cases q'
      cases r1
      exact ⟨z, rfl, p1 _ G' H' (Ext.refl e1.i) wd_str⟩
    | _ => rw [q] at p; exact p.elim
theorem si_range1 (hg : Gl X "range") (hm : X.mg "range" = none) (ha : PA X [e] (tDA X.K ec W fs)) (hs : starEach [e] X.env = [(false, eval e X.env)] := by rfl) : PI X tg (.Call (.Name "range" p) [e] [] pos) (tDI X.K ec W (iCall rng1 fs)) :=
  PI_imp (pi_range1 hg hm ha hs) fun σ H Q ⟨G, env, sg, E, p⟩ => ⟨G, env, sg, E, PostI.bindL p fun vs ds G' H' q' e1 r1 p1 => by
    unfold rng1 at p1
    split at p1
    · rename_i n
      split at p1
      · rename_i hn
        cases r1 with
        | cons a b =>
          cases a
          cases b
          exact ⟨n, rfl, by omega, by omega, p1 _ G' H' (Ext.refl e1.i) wd_range⟩
      · exact p1.elim
    · exact p1.elim⟩
theorem si_range2 (hg : Gl X "range") (hm : X.mg "range" = none) (ha : PA X [e, e2] (tDA X.K ec W fs)) (hs : starEach [e, e2] X.env = [(false, eval e X.env), (false, eval e2 X.env)] := by rfl) (hs2 : starEach [e2] X.env = [(false, eval e2 X.env)] := by rfl) :
    PI X tg (.Call (.Name "range" p) [e, e2] [] pos) (tDI X.K ec W (iCall rng2 fs)) :=
  PI_imp (pi_range2 hg hm ha hs hs2) fun σ H Q ⟨G, env, sg, E, p⟩ => ⟨G, env, sg, E, PostI.bindL p fun vs ds G' H' q' e1 r1 p1 => by
    unfold rng2 at p1
    split at p1
    · rename_i n m
      split at p1
      · rename_i hn
        cases r1 with
        | cons a b =>
          cases a
          cases b with
          | cons a b =>
            cases a
            cases b
            exact ⟨n, m, rfl, ⟨by omega, by omega, by omega, by omega⟩, p1 _ G' H' (Ext.refl e1.i) wd_range⟩
      · exact p1.elim
    · exact p1.elim⟩
theorem si_enum (hg : Gl X "enumerate") (hm : X.mg "enumerate" = none) (ha : PA X [e] (tDA X.K ec W fs)) (hs : starEach [e] X.env = [(false, eval e X.env)] := by rfl) :
    PI X (.Tuple elts kk tpos) (.Call (.Name "enumerate" p) [e] [] pos) (tDI X.K ec W (iCall enum1 fs)) :=
  PI_imp (pi_enum hg hm ha hs) fun σ H Q ⟨G, env, sg, E, p⟩ => ⟨G, env, sg, E, PostI.bindL p fun vs ds G' H' q' e1 r1 p1 => by
    unfold enum1 at p1
    split at p1
    · cases r1 with
      | cons a b =>
        cases b
        cases a with
        | @lst l xs _ hl r => exact ⟨l, xs, rfl, (ls_same e1.i hl).sq, p1 _ G' H' (Ext.refl e1.i) (wd_enum hl r)⟩
    · exact p1.elim⟩
theorem si_zip (hg : Gl X "zip") (hm : X.mg "zip" = none) (ha : PA X [e, e2] (tDA X.K ec W fs)) (hs : starEach [e, e2] X.env = (false, eval e X.env) :: starEach [e2] X.env := by rfl) (hpl : (backTo pos (starEach [e2] X.env)).any (·.1) = false := by rfl) :
    PI X (.Tuple elts kk tpos) (.Call (.Name "zip" p) [e, e2] [] pos) (tDI X.K ec W (iCall zip2 fs)) :=
  PI_imp (pi_zip hg hm ha hs hpl) fun σ H Q ⟨G, env, sg, E, p⟩ => ⟨G, env, sg, E, PostI.bindL p fun vs ds G' H' q' e1 r1 p1 => by
    unfold zip2 at p1
    split at p1
    · cases r1 with
      | cons a b =>
        cases b with
        | cons b c =>
          cases c
          cases a with
          | @lst l xs _ hl r =>
            cases b with
            | @lst l2 ys _ hl2 r2 => exact ⟨l, l2, xs, ys, rfl, (ls_same e1.i hl).sq, (ls_same e1.i hl2).sq, p1 _ G' H' (Ext.refl e1.i) (wd_zip hl r hl2 r2)⟩
    · exact p1.elim⟩
end

/-! ### targets -/
abbrev GF := PyData → Ev → Option Ev
def gN (i : Nat) : GF := fun d env => some (env.set i (.pu d))
def setAll : List Nat → List PyData → Ev → Option Ev
  | [], [], env => some env
  | i :: is, d :: ds, env => setAll is ds (env.set i (.pu d))
  | _, _, _ => none
def gT (is : List Nat) : GF := fun d env => match d with
  | .tuple ds => setAll is ds env
  | _ => none
def gL (is : List Nat) : GF := fun d env => match d with
  | .list ds => setAll is ds env
  | _ => none
def tDG (K : PySem.W.Frag) (G0 H0 : Hp) (g : GF) : TG := fun v σ H Q => ∃ G env d env', StR K G0 H0 G H σ env ∧ Rep K G v d ∧ g d env = some env' ∧ ∀ σ', StR K G0 H0 G H σ' env' → Q σ' H
theorem PG_imp {X : Cx} {e : Expr} {t t' : TG} (h : PG X e t) (k : ∀ v σ H Q, t' v σ H Q → t v σ H Q) : PG X e t' := ⟨fun pins s σ H v u Q I r q => h.run pins s σ H v u Q I r (k _ _ _ _ q)⟩
/-- several names -/
def gNs : List Nat → TGs
  | [] => gNil
  | i :: is => gCons (gName i) (gNs is)
section
variable {X : Cx} {G0 H0 : Hp} {x : Str} {pos : Pos} {es : List Expr} {k n : Nat} {is : List Nat}
theorem gNs_ok {K : PySem.W.Frag} {G H : Hp} {Q : L2.St → Hp → Prop} : ∀ {is : List Nat} {ds : List PyData} {vs : List V} {σ : L2.St} {env env' : Ev}, StR K G0 H0 G H σ env → RepA K G vs ds → setAll is ds env = some env' → (∀ σ', StR K G0 H0 G H σ' env' → Q σ' H) → gNs is vs σ H Q
  | [], [], _, σ, env, env', S, r, e, q => by
    cases r
    cases e
    exact ⟨rfl, q σ S⟩
  | i :: is, d :: ds, _, σ, env, env', S, r, e, q => by
    cases r with
    | cons r1 r2 => exact ⟨_, _, rfl, gNs_ok (S.setP r1) r2 e q⟩
  | [], _ :: _, _, _, _, _, _, _, e, _ => by cases e
  | _ :: _, [], _, _, _, _, _, _, e, _ => by cases e
theorem setAll_len : ∀ {is : List Nat} {ds : List PyData} {env env' : Ev}, setAll is ds env = some env' → ds.length = is.length
  | [], [], _, _, _ => rfl
  | i :: is, d :: ds, env, env', e => by rw [List.length_cons, List.length_cons, setAll_len (is := is) (ds := ds) e]
  | [], _ :: _, _, _, e => by cases e
  | _ :: _, [], _, _, e => by cases e
theorem sg_name {i : Nat} (hN : X.N.Nodup) (hi : X.N[i]? = some x := by rfl) (hx : Loc X.env.scope x := by first | exact Or.inl rfl | exact Or.inr rfl) (hf : X.fn x = true ∨ X.env.scope.names.lookup x = some .local := by first | exact .inl rfl | exact .inr rfl | assumption) : PG X (.Name x pos) (tDG X.K G0 H0 (gN i)) :=
  PG_imp (pg_name hN hi hx hf) fun v σ H Q ⟨G, env, d, env', S, r, e, q⟩ => by
    cases e
    exact q _ (S.setP r)
theorem sn_nil : PGs X [] (gNs []) := pgs_nil
theorem sn_cons {i : Nat} (hN : X.N.Nodup) (h2 : PGs X es (gNs is)) (hi : X.N[i]? = some x := by rfl) (hx : Loc X.env.scope x := by first | exact Or.inl rfl | exact Or.inr rfl) (hf : X.fn x = true ∨ X.env.scope.names.lookup x = some .local := by first | exact .inl rfl | exact .inr rfl | assumption)
    (hs : (assignEach (.Name x pos :: es) X.env).map (·.2) = assign (.Name x pos) X.env :: (assignEach es X.env).map (·.2) := by rfl) : PGs X (.Name x pos :: es) (gNs (i :: is)) := pgs_cons (pg_name hN hi hx hf) h2 hs
theorem sg_tup (hc : X.calm = true) (h : PGs X es (gNs is)) (hn : (assignEach es X.env).length = is.length := by rfl) (hst : (assignEach es X.env).findIdx? (·.1) = none := by rfl) : PG X (.Tuple es k pos) (tDG X.K G0 H0 (gT is)) :=
  PG_imp (pg_tup hc h hn hst) fun v σ H Q ⟨G, env, d, env', S, r, e, q⟩ => by
    cases r with
    | @tup a xs ds ha r => exact ⟨a, xs, rfl, sqT_same S.x.i ha, by rw [r.length]; exact setAll_len e, gNs_ok S r e q⟩
    | _ => cases e
theorem sg_lst (hc : X.calm = true) (h : PGs X es (gNs is)) (hn : (assignEach es X.env).length = is.length := by rfl) (hst : (assignEach es X.env).findIdx? (·.1) = none := by rfl) : PG X (.Tuple es k pos) (tDG X.K G0 H0 (gL is)) :=
  PG_imp (pg_lst hc h hn hst) fun v σ H Q ⟨G, env, d, env', S, r, e, q⟩ => by
    cases r with
    | @lst a xs ds ha r => exact ⟨a, xs, rfl, (ls_same S.x.i ha).sq, by rw [r.length]; exact setAll_len e, gNs_ok S r e q⟩
    | _ => cases e
end

/-! ### loops -/
def forF (tg : GF) (body : SF) : List PyData → Ev → Out
  | [], env => .nx env
  | d :: ds, env => match tg d env with
    | none => .no
    | some e1 => (body e1).loop (forF tg body ds)
def sFor (tg : GF) (fi : LF) (body : SF) (env : Ev) : Out := (fi (env.map Sl.pur)).outL fun ds => forF tg body ds env
def whileF (t : TF) (body : SF) : Nat → Ev → Out
  | 0, _ => .no
  | n + 1, env => (t (env.map Sl.full)).outB fun b => if b then (body env).loop (whileF t body n) else .nx env
def sWhile (n : Nat) (t : TF) (body : SF) (env : Ev) : Out := whileF t body n env
def sAsgT (m : Md) (tg : GF) (f : EF) (env : Ev) : Out := (evM m f env).out fun d => match tg d env with
  | none => .no
  | some e => .nx e
section
variable {X : Cx} {ec : Nat → Addr} {W : WX} {G0 H0 : Hp} {tg iter e c : Expr} {body : List Stmt} {g : GF} {fi : LF} {fe : EF} {ft : TF} {fb : SF} {pos : Pos}
theorem ss_asgT (m : Md) (he : PE X e (tD X.K ec W fe)) (hg : PG X tg (tDG X.K G0 H0 g)) (hs : swapsWithSole [tg] e pos.line X.env = pure false := by rfl) (hw : swappedStores [tg] e X.env = pure none := by rfl)
    (h1 : (assignEach [tg] X.env).map (·.2) = [assign tg X.env] := by rfl) : PS X (.Assign [tg] e pos) (tDS X.K ec W G0 H0 (sAsgT m g fe)) :=
  PS_imp (ps_asg he hg hs hw h1) fun D σ H ⟨G, env, S, p⟩ => tD_M (m := m) S (PostE.out p fun v d G' H' _ gg S' r p' => by
    cases q : g d env with
    | none => rw [q] at p'; exact p'.elim
    | some e' => rw [q] at p'; exact ⟨G', env, d, e', S', r, q, fun σ' S2 => p' σ' G' H' (Same.refl _) S2⟩)
theorem ss_for (hp : PassesOwn (model X.prog X.w) X.A X.env X.xe) (hc : X.calm = true) (hi : PI X tg iter (tDI X.K ec W fi)) (hg : PG X tg (tDG X.K G0 H0 g)) (hb : PSs X body (tDS X.K ec W G0 H0 fb))
    (hs : ∀ x, foldedSetIterable iter X.env x = pure x := by intro _; rfl) : PS X (.For tg iter body [] pos) (tDS X.K ec W G0 H0 (sFor g fi fb)) := by
  refine PS_imp (ps_for hp hc hi hg hb hs) fun D σ H ⟨G, env, S, p⟩ => ⟨G, _, S.x.i, S.envP, ?_⟩
  unfold sFor at p
  cases q : fi (env.map Sl.pur) with
  | ex c => rw [q] at p; exact fun H' s => p σ H' (S.x.h.trans s)
  | no => rw [q] at p; exact p
  | ok ds =>
    rw [q] at p
    intro J G1 H1 e1 w
    have wk : Walk J ds.length (fun H => Same G1 H) (fun i H x H' => ∀ Gc d, ds[i]? = some d → Same G1 Gc → Same Gc H → ∃ Gc', Ext Gc H Gc' H' ∧ Rep X.K Gc' x d) :=
      ⟨fun i H hi s => w.go i H hi s, fun H s => w.stop H s, fun i H x H' hi s y Gc d hd s1 s2 => w.yld i Gc H x H' d hd s1 s2 y⟩
    refine for_it wk (fun i σ H => ∃ G2 env2, Same G1 G2 ∧ StR X.K G0 H0 G2 H σ env2 ∧ PostS X.K ec W G0 H0 G2 D (forF g fb (ds.drop i) env2)) ⟨G1, env, Same.refl _, S.grow e1, PostS.mono e1.g p⟩ ?_ ?_ ?_
    · rintro i σ H _ ⟨G2, env2, s2, S2, _⟩
      exact s2.trans S2.x.i
    · rintro i x σ H H' hi ⟨G2, env2, s2, S2, p2⟩ y
      have hd : ds[i]? = some ds[i] := by simp [hi]
      obtain ⟨G3, e3, r3⟩ := y G2 ds[i] hd s2 S2.x.i
      rw [List.drop_eq_getElem_cons hi] at p2
      unfold forF at p2
      cases qg : g ds[i] env2 with
      | none => rw [qg] at p2; exact p2.elim
      | some env3 =>
        rw [qg] at p2
        refine ⟨G3, env2, _, env3, S2.grow e3, r3, qg, fun σ' S4 => ⟨G3, env3, S4, ?_⟩⟩
        dsimp only at p2
        cases qb : fb env3 with
        | nx e => rw [qb] at p2; exact fun σ5 G5 H5 s5 S5 => ⟨G5, e, (s2.trans e3.g).trans s5, S5, PostS.mono (e3.g.trans s5) p2⟩
        | ct e => rw [qb] at p2; exact fun σ5 G5 H5 s5 S5 => ⟨G5, e, (s2.trans e3.g).trans s5, S5, PostS.mono (e3.g.trans s5) p2⟩
        | bk e => rw [qb] at p2; exact fun σ5 G5 H5 s5 S5 => p2 σ5 G5 H5 (e3.g.trans s5) S5
        | rt d => rw [qb] at p2; exact p2
        | ex c => rw [qb] at p2; exact p2
        | no => rw [qb] at p2; exact p2
    · rintro σ H ⟨G2, env2, s2, S2, p2⟩
      rw [List.drop_length] at p2
      exact p2 σ G2 H (Same.refl _) S2
theorem ss_while (n : Nat) (hp : PassesOwn (model X.prog X.w) X.A X.env X.xe) (hc : PT X c (tDT X.K ec W ft)) (hb : PSs X body (tDS X.K ec W G0 H0 fb)) : PS X (.While c body [] pos) (tDS X.K ec W G0 H0 (sWhile n ft fb)) := by
  refine PS_imp (ps_while hp hc hb) fun D σ H ⟨G, env, S, p⟩ => ?_
  refine ⟨fun m σ H => ∃ G env, StR X.K G0 H0 G H σ env ∧ PostS X.K ec W G0 H0 G D (whileF ft fb m env), ⟨n, G, env, S, p⟩, ?_⟩
  rintro m σ H ⟨G, env, S, p⟩
  cases m with
  | zero => exact p.elim
  | succ m =>
    unfold whileF at p
    refine tDT_F S p fun b H1 s1 S1 p1 => ?_
    cases b with
    | false => exact iteF (p1 σ G H1 (Same.refl _) S1)
    | true =>
      refine iteT ⟨fun σ H => ∃ G env, StR X.K G0 H0 G H σ env ∧ PostS X.K ec W G0 H0 G D (whileF ft fb m env), fun σ' H' h => ⟨m, Nat.lt_succ_self _, h⟩, ⟨G, env, S1, ?_⟩⟩
      rw [if_pos rfl] at p1
      cases qb : fb env with
      | nx e => rw [qb] at p1; exact fun σ5 G5 H5 s5 S5 => ⟨G5, e, S5, PostS.mono s5 p1⟩
      | ct e => rw [qb] at p1; exact fun σ5 G5 H5 s5 S5 => ⟨G5, e, S5, PostS.mono s5 p1⟩
      | bk e => rw [qb] at p1; exact fun σ5 G5 H5 s5 S5 => p1 σ5 G5 H5 s5 S5
      | rt d => rw [qb] at p1; exact p1
      | ex c => rw [qb] at p1; exact p1
      | no => rw [qb] at p1; exact p1
end

/-! ### the body of a def -/
def entry (n : Nat) (ds : List PyData) : Ev := ds.map Sl.pu ++ List.replicate (n - ds.length) Sl.no
def Out.res : Out → R PyData
  | .nx _ => .ok .none
  | .rt d => .ok d
  | .ex c => .ex c
  | _ => .no
/-- what a def is worth: n its slots, f its body -/
def runB (n : Nat) (f : SF) (ds : List PyData) : R PyData := (f (entry n ds)).res
theorem start_ok {K : PySem.W.Frag} {N : List Str} {vs : List V} {ds : List PyData} {G H : Hp} (i : Same G H) (r : RepA K G vs ds) : StR K G H G H (start N vs) (entry N.length ds) := by
  have hl := r.length
  have key : ∀ (j : Nat) (s : Sl), (entry N.length ds)[j]? = some s → (∃ d, s = .pu d ∧ ds[j]? = some d) ∨ s = .no := fun j s q => by
    unfold entry at q
    by_cases hj : j < ds.length
    · rw [List.getElem?_append_left (by simpa using hj), List.getElem?_map] at q
      cases e : ds[j]? with
      | none => rw [e] at q; cases q
      | some d => rw [e] at q; cases q; exact .inl ⟨d, rfl, rfl⟩
    · rw [List.getElem?_append_right (by simpa using hj), List.getElem?_replicate] at q
      split at q
      · cases q; exact .inr rfl
      · cases q
  refine ⟨Ext.refl i, by unfold L2.start entry; simp [hl], fun j d q => ?_, fun j d q => ?_, fun j k d d' l _ q => ?_⟩
  · rcases key j _ q with ⟨d', e, q'⟩ | e
    · cases e
      obtain ⟨v, hv, rv⟩ := r.get q'
      refine ⟨v, ?_, rv⟩
      have hj : j < vs.length := (List.getElem?_eq_some_iff.mp hv).1
      unfold L2.start
      rw [List.getElem?_append_left (by simpa using hj), List.getElem?_map, hv]
      rfl
    · cases e
  · rcases key j _ q with ⟨d', e, _⟩ | e <;> cases e
  · rcases key j _ q with ⟨d', e, _⟩ | e <;> cases e
section
variable {P : Program} {w : World} {K : PySem.W.Frag} {mg : Str → Option Value} {base : Heap}
theorem fn_pure {ec : Nat → Addr} {x qual : Str} {st : Stmt} {f : Addr} {fd : FuncData} {N ps : List Str} {k n : Nat} {fb : SF} (F : Fun K x qual st f fd) (S : FnScope N ps (defScope st)) (hn : ps.length = n)
    (hbody : ∀ (cdv : Value) (A : Around) (outer : List Env) (s : Shared) (G0 H : Hp) (E : XK), Same G0 H → Room k (A.deeper (envOfC qual (defScope st) s.heap.objs.size f cdv)) →
      PSs (cxOf (L2N.CX P w) P w K mg base N qual (defScope st) f cdv A outer s H E) (defBody st) (tDS K ec (fun cls d _ H => E cls d H) G0 H fb)) :
    FnOk P w K mg base (L2N.CX P w) (k + 1) f fd ps (spP K ec n (runB N.length fb)) := by
  obtain ⟨oc, od, kV, doc, pm, an, cdv, ct, osl, rfl, lk, hcd⟩ := F.ex
  refine fn_of lk hcd S (fun vs H Q E h => by rw [h.1, hn]) fun A outer s H vs Q E hr h => ?_
  obtain ⟨hl, G, ds, i, r, p⟩ := h
  refine ⟨_, hbody cdv A outer s G H E i hr, G, _, start_ok i r, ?_⟩
  unfold runB at p
  cases q : fb (entry N.length ds) with
  | nx e => rw [q] at p; exact fun σ' G' H' g S' => p _ G' H' S'.x .non
  | rt d => rw [q] at p; exact p
  | ex c => rw [q] at p; exact fun _ H' s => p H' s
  | bk e => rw [q] at p; exact p.elim
  | ct e => rw [q] at p; exact p.elim
  | no => rw [q] at p; exact p.elim
end
end PL
/-! PL, part f: what is new and owned, comprehensions, changes of what is owned. -/
namespace PL
open PySem PySem.Spec PyProof.Rows L2

/-! ### new things -/
def PostN (K : PySem.W.Frag) (ec : Nat → Addr) (W : WX) (σ : L2.St) (G H : Hp) (Q : VK) : R PyData → Prop
  | .ok d => ∀ l G' H', Ext G H G' H' → H l = none → G' l = none → Own K G' H' l d → Q (.ref l) H'
  | .ex c => ∀ H', Same H H' → W (.ref (ec c)) none σ H'
  | .no => False
def tDN (K : PySem.W.Frag) (ec : Nat → Addr) (W : WX) (f : EF) : TE := fun σ H Q => ∃ G env, Same G H ∧ EnvR K G σ env ∧ PostN K ec W σ G H Q (f env)
section
variable {K : PySem.W.Frag} {ec : Nat → Addr} {W : WX} {σ : L2.St} {G H G' H' : Hp} {Q : VK}
theorem PostN.mono {r : R PyData} (e : Ext G H G' H') (h : PostN K ec W σ G H Q r) : PostN K ec W σ G' H' Q r := by
  cases r with
  | ok d => exact fun l G2 H2 e2 n g o => h l G2 H2 (e.trans e2) (e.h.free n) g o
  | ex c => exact fun H2 s2 => h H2 (e.h.trans s2)
  | no => exact h
theorem PostN.bindL {Q' : List V → Hp → Prop} {r : R (List PyData)} {k : List PyData → R PyData} (h : PostN K ec W σ G H Q (r.bind k)) (hk : ∀ vs ds G' H', r = .ok ds → Ext G H G' H' → RepA K G' vs ds → PostN K ec W σ G' H' Q (k ds) → Q' vs H') : PostL K ec W σ G H Q' r := by
  cases r with
  | ok d => exact fun v G' H' e p => hk v d G' H' rfl e p (PostN.mono e h)
  | ex c => exact h
  | no => exact h
theorem PostN.bindI {Q' : It → Hp → Prop} {r : R (List PyData)} {k : List PyData → R PyData} (h : PostN K ec W σ G H Q (r.bind k)) (hk : ∀ J ds G' H', r = .ok ds → Ext G H G' H' → WalkD K G' J ds → PostN K ec W σ G' H' Q (k ds) → Q' J H') : PostI K ec W σ G H Q' r := by
  cases r with
  | ok d => exact fun v G' H' e p => hk v d G' H' rfl e p (PostN.mono e h)
  | ex c => exact h
  | no => exact h
theorem Post.new {r : R PyData} (i : Same G H) (h : Post K ec W σ G H Q r) : PostN K ec W σ G H Q r := by
  cases r with
  | ok d =>
    intro l G' H' e n g o
    obtain ⟨u, hu, hr⟩ := o.there
    have s : Same G' (upd G' l u) := same_new g
    refine h _ (upd G' l u) H' ⟨e.g.trans s, e.h, fun b x q => ?_, fun b h1 h2 => ?_⟩ (hr _ s upd_same)
    · by_cases hb : b = l
      · subst hb; rw [upd_same] at q; cases q; exact hu
      · rw [upd_ne hb] at q; exact e.i b x q
    · by_cases hb : b = l
      · subst hb; exact n
      · rw [upd_ne hb] at h1; exact e.f b h1 h2
  | ex c => exact h
  | no => exact h
end
section
variable {X : Cx} {ec : Nat → Addr} {W : WX} {e a b : Expr} {es : List Expr} {f : EF} {fs : List EF} {pos : Pos}
theorem se_new (h : PE X e (tDN X.K ec W f)) : PE X e (tD X.K ec W f) := PE_imp h fun σ H Q ⟨G, env, s, E, p⟩ => ⟨G, env, s, E, Post.new s p⟩
theorem own_new {K : PySem.W.Frag} {G H : Hp} {vs : List V} {ds : List PyData} {l : Addr} (r : RepA K G vs ds) : Own K G (upd H l (.lst vs)) l (.list ds) := ⟨vs, upd_same, r⟩
theorem sn_lst (h : PA X es (tDA X.K ec W fs)) (hl : fs.length ≤ 1000 := by exact Nat.le_of_ble_eq_true rfl) : PE X (.List es pos) (tDN X.K ec W (eLst fs)) :=
  PE_imp (pe_lst h) fun σ H Q ⟨G, env, s, E, p⟩ => ⟨G, env, s, E, PostN.bindL p fun vs ds G1 H1 q e1 r1 p1 => by
    have hn : vs.length ≤ 1000 := by rw [r1.length, aAll_len q]; exact hl
    exact ⟨Nat.le_of_lt (small1000 hn), fun l n => p1 l G1 _ (Ext.heap e1.i (same_new n)) n (e1.i.free n) (own_new r1)⟩⟩
end

/-! ### comprehensions -/
abbrev GE := PyData → List (Option PyData) → Option (List (Option PyData))
def cN (i : Nat) : GE := fun d env => some (env.set i (some d))
def setE : List Nat → List PyData → List (Option PyData) → Option (List (Option PyData))
  | [], [], env => some env
  | i :: is, d :: ds, env => setE is ds (env.set i (some d))
  | _, _, _ => none
def cT (is : List Nat) : GE := fun d env => match d with
  | .tuple ds => setE is ds env
  | _ => none
def lcF (tg : GE) (tt : TF) (te : EF) : List PyData → List (Option PyData) → R (List PyData)
  | [], _ => .ok []
  | d :: ds, env => match tg d env with
    | none => .no
    | some e1 => (tt e1).bind fun b => if b then (te e1).bind fun y => (lcF tg tt te ds env).bind fun ys => .ok (y :: ys) else lcF tg tt te ds env
def R.sure {α : Type} : R α → R α
  | .ok a => .ok a
  | _ => .no
@[simp] theorem R.sure_ok {α : Type} (a : α) : (R.ok a).sure = .ok a := rfl
def lcE (ys : List PyData) : R PyData := if ys.length < szl then .ok (.list ys) else .no
def eLc (tg : GE) (fi : LF) (tt : TF) (te : EF) (env : List (Option PyData)) : R PyData := (fi env).bind fun ds => ((lcF tg tt te ds env).sure).bind lcE
def bYes (_ : List (Option PyData)) : R Bool := .ok true
abbrev WNo : WX := fun _ _ _ _ => False

theorem wipe_get (σ : L2.St) (j : Nat) : ∀ vs : List Nat, (wipe σ vs)[j]? = if j ∈ vs then (σ[j]?).map (fun _ => none) else σ[j]?
  | [] => by simp [wipe]
  | v :: vs => by
    unfold wipe
    rw [List.getElem?_set, wipe_get σ j vs, wipe_length]
    by_cases h : v = j
    · subst h
      simp only [List.mem_cons_self, if_true]
      by_cases hl : v < σ.length
      · simp [hl]
      · simp [hl]
    · have hj : ¬ j = v := fun e => h e.symm
      simp only [List.mem_cons, hj, false_or, if_neg h]
theorem wipe_set (σ : L2.St) (i : Nat) (x : Option V) (vs : List Nat) (h : i ∈ vs) : wipe (σ.set i x) vs = wipe σ vs := by
  apply List.ext_getElem?
  intro j
  rw [wipe_get, wipe_get, List.getElem?_set]
  by_cases e : i = j
  · subst e
    simp only [h, if_true]
    by_cases hl : i < σ.length
    · simp [hl]
    · simp [hl]
  · simp only [if_neg e]
theorem wipe_wipe (σ : L2.St) (vs : List Nat) : wipe (wipe σ vs) vs = wipe σ vs := by
  apply List.ext_getElem?
  intro j
  rw [wipe_get, wipe_get]
  by_cases h : j ∈ vs
  · simp only [h, if_true]
    cases σ[j]? <;> rfl
  · simp only [h, if_false]
/-- env but for the slots of rest -/
def EnvX (K : PySem.W.Frag) (G : Hp) (σ : L2.St) (env : List (Option PyData)) (rest : List Nat) : Prop := env.length ≤ σ.length ∧ ∀ (i : Nat) (d : PyData), i ∉ rest → env[i]? = some (some d) → ∃ v, σ[i]? = some (some v) ∧ Rep K G v d
theorem EnvX.start {K : PySem.W.Frag} {G : Hp} {σ : L2.St} {env : List (Option PyData)} {vs : List Nat} (E : EnvR K G σ env) : EnvX K G (wipe σ vs) env vs :=
  ⟨by rw [wipe_length]; exact E.len, fun i d hi q => by rw [wipe_get, if_neg hi]; exact E.at' i d q⟩
theorem EnvX.set {K : PySem.W.Frag} {G : Hp} {σ : L2.St} {env : List (Option PyData)} {i : Nat} {rest : List Nat} {v : V} {d : PyData} (E : EnvX K G σ env (i :: rest)) (r : Rep K G v d) : EnvX K G (σ.set i (some v)) (env.set i (some d)) rest := by
  refine ⟨by rw [List.length_set, List.length_set]; exact E.1, fun j d' hj q => ?_⟩
  by_cases e : i = j
  · subst e
    have hl : i < env.length := by
      by_cases hl : i < env.length
      · exact hl
      · rw [List.getElem?_eq_none (by simpa using hl)] at q; cases q
    rw [List.getElem?_set_self hl] at q
    cases q
    exact ⟨v, List.getElem?_set_self (Nat.lt_of_lt_of_le hl E.1), r⟩
  · rw [List.getElem?_set_ne e] at q ⊢
    exact E.2 j d' (by simp only [List.mem_cons, not_or]; exact ⟨fun z => e z.symm, hj⟩) q
theorem EnvX.done {K : PySem.W.Frag} {G : Hp} {σ : L2.St} {env : List (Option PyData)} (E : EnvX K G σ env []) : EnvR K G σ env := ⟨E.1, fun i d => E.2 i d (by simp)⟩
/-- the target's rule g does on slots what tg does on data -/
def TgOk (K : PySem.W.Frag) (vs : List Nat) (g : TG) (tg : GE) : Prop :=
  ∀ (G H : Hp) (σ : L2.St) (env env' : List (Option PyData)) (v : V) (d : PyData) (Q : L2.St → Hp → Prop), Same G H → EnvR K G σ env → Rep K G v d → tg d env = some env' →
    (∀ σ2, wipe σ2 vs = wipe σ vs → EnvR K G σ2 env' → Q σ2 H) → g v (wipe σ vs) H Q
theorem tg_name {K : PySem.W.Frag} {i : Nat} : TgOk K [i] (gName i) (cN i) := by
  intro G H σ env env' v d Q s E r e q
  cases e
  exact q _ (by rw [wipe_set _ _ _ _ (by simp), wipe_wipe]) (EnvX.done ((EnvX.start E).set r))
theorem tg_names {K : PySem.W.Frag} {vs : List Nat} {σ0 : L2.St} {G H : Hp} {Q : L2.St → Hp → Prop} : ∀ {is : List Nat} {ds : List PyData} {xs : List V} {σ : L2.St} {env env' : List (Option PyData)}, (∀ i ∈ is, i ∈ vs) → wipe σ vs = wipe σ0 vs → EnvX K G σ env is → RepA K G xs ds → setE is ds env = some env' →
    (∀ σ2, wipe σ2 vs = wipe σ0 vs → EnvR K G σ2 env' → Q σ2 H) → gNs is xs σ H Q
  | [], [], _, σ, env, env', _, hw, E, r, e, q => by
    cases r
    cases e
    exact ⟨rfl, q σ hw E.done⟩
  | i :: is, d :: ds, _, σ, env, env', hi, hw, E, r, e, q => by
    cases r with
    | cons r1 r2 => exact ⟨_, _, rfl, tg_names (fun j hj => hi j (List.mem_cons_of_mem _ hj)) (by rw [wipe_set _ _ _ _ (hi i List.mem_cons_self), hw]) (E.set r1) r2 e q⟩
  | [], _ :: _, _, _, _, _, _, _, _, _, e, _ => by cases e
  | _ :: _, [], _, _, _, _, _, _, _, _, e, _ => by cases e
theorem setE_len : ∀ {is : List Nat} {ds : List PyData} {env env' : List (Option PyData)}, setE is ds env = some env' → ds.length = is.length
  | [], [], _, _, _ => rfl
  | i :: is, d :: ds, env, env', e => by rw [List.length_cons, List.length_cons, setE_len (is := is) (ds := ds) e]
  | [], _ :: _, _, _, e => by cases e
  | _ :: _, [], _, _, e => by cases e
theorem tg_tuple {K : PySem.W.Frag} {is : List Nat} : TgOk K is (gTup K is.length (gNs is)) (cT is) := by
  intro G H σ env env' v d Q s E r e q
  cases r with
  | @tup a xs ds ha r => exact ⟨a, xs, rfl, sqT_same s ha, by rw [r.length]; exact setE_len e, tg_names (fun i hi => hi) (by rw [wipe_wipe]) (EnvX.start E) r e q⟩
  | _ => cases e
theorem lcF_len {tg : GE} {tt : TF} {te : EF} : ∀ {ds : List PyData} {env : List (Option PyData)} {d : PyData} {env' : List (Option PyData)} {ys : List PyData}, lcF tg tt te (d :: ds) env = .ok ys → tg d env = some env' →
    (tt env' = .ok false ∧ lcF tg tt te ds env = .ok ys) ∨ (tt env' = .ok true ∧ ∃ y zs, te env' = .ok y ∧ lcF tg tt te ds env = .ok zs ∧ ys = y :: zs) := by
  intro ds env d env' ys h e
  unfold lcF at h
  rw [e] at h
  dsimp only at h
  cases q : tt env' with
  | ok b =>
    rw [q] at h
    rw [R.bind_ok] at h
    cases b with
    | false => exact .inl ⟨rfl, h⟩
    | true =>
      rw [if_pos rfl] at h
      cases q2 : te env' with
      | ok y =>
        rw [q2] at h
        rw [R.bind_ok] at h
        cases q3 : lcF tg tt te ds env with
        | ok zs => rw [q3] at h; cases h; exact .inr ⟨rfl, y, zs, rfl, rfl, rfl⟩
        | ex c => rw [q3] at h; cases h
        | no => rw [q3] at h; cases h
      | ex c => rw [q2] at h; cases h
      | no => rw [q2] at h; cases h
  | ex c => rw [q] at h; cases h
  | no => rw [q] at h; cases h
theorem tLc_N {K : PySem.W.Frag} {ec : Nat → Addr} {W : WX} {fi : LF} {g : TG} {tg : GE} {tt : TF} {te : EF} {vs : List Nat} (tk : TgOk K vs g tg) {σ : L2.St} {H : Hp} {Q : VK} :
    tDN K ec W (eLc tg fi tt te) σ H Q → tLc (tDI K ec W fi) g (tDT K ec WNo tt) (tD K ec WNo te) vs σ H Q := by
  rintro ⟨G, env, s, E, p⟩
  refine ⟨G, env, s, E, PostN.bindI p fun J ds G1 H1 q e1 w p1 D hD => ?_⟩
  cases ql : lcF tg tt te ds env with
  | ex c => rw [ql] at p1; exact p1.elim
  | no => rw [ql] at p1; exact p1.elim
  | ok ys =>
    rw [ql, R.sure_ok, R.bind_ok] at p1
    unfold lcE at p1
    split at p1
    · rename_i hsz
      have gD : G1 D = none := e1.i.free hD
      have wk : Walk J ds.length (fun H => Same G1 H) (fun i H x H' => ∀ Gc d, ds[i]? = some d → Same G1 Gc → Same Gc H → ∃ Gc', Ext Gc H Gc' H' ∧ Rep K Gc' x d) :=
        ⟨fun i H hi s => w.go i H hi s, fun H s => w.stop H s, fun i H x H' hi s y Gc d hd s1 s2 => w.yld i Gc H x H' d hd s1 s2 y⟩
      refine lc_it wk (fun i H => ∃ G2 acc us zs, Ext G1 H1 G2 H ∧ G2 D = none ∧ H D = some (.lst acc) ∧ RepA K G2 acc us ∧ lcF tg tt te (ds.drop i) env = .ok zs ∧ ys = us ++ zs)
        ⟨G1, [], [], ys, Ext.heap e1.i (same_new hD), gD, upd_same, .nil, ql, rfl⟩ ?_ ?_ ?_
      · rintro i H _ ⟨G2, acc, us, zs, e2, _⟩
        exact e2.g.trans e2.i
      · rintro i x H H' hi ⟨G2, acc, us, zs, e2, g2, hd2, r2, l2, hy⟩ y
        have hd : ds[i]? = some ds[i] := by simp [hi]
        obtain ⟨G3, e3, r3⟩ := y G2 ds[i] hd e2.g e2.i
        rw [List.drop_eq_getElem_cons hi] at l2
        cases qg : tg ds[i] env with
        | none => unfold lcF at l2; rw [qg] at l2; cases l2
        | some env3 =>
          have g3 : G3 D = none := e3.clean g2 hd2
          refine tk G3 H' σ env env3 x ds[i] _ e3.i (E.mono (e1.g.trans (e2.g.trans e3.g))) r3 qg fun σ2 hw E2 => ⟨hw, ?_⟩
          rcases lcF_len l2 qg with ⟨t0, l3⟩ | ⟨t0, y0, zs0, ty, l3, ez⟩
          · refine ⟨G3, env3, e3.i, E2, ?_⟩
            rw [t0]
            intro H4 s4
            refine iteF ⟨G3, acc, us, zs, (e2.trans e3).trans (Ext.heap e3.i s4), g3, s4 D _ (e3.h D _ hd2), r2.mono e3.g, l3, hy⟩
          · refine ⟨G3, env3, e3.i, E2, ?_⟩
            rw [t0]
            intro H4 s4
            refine iteT ⟨G3, env3, e3.i.trans s4, E2, ?_⟩
            rw [ty]
            intro v G5 H5 e5 r5
            have hd5 : H5 D = some (.lst acc) := e5.h D _ (s4 D _ (e3.h D _ hd2))
            have g5 : G5 D = none := e5.clean g3 (s4 D _ (e3.h D _ hd2))
            have hacc : acc.length < szl := by
              rw [r2.length]
              have := congrArg List.length hy
              rw [List.length_append, ez, List.length_cons] at this
              omega
            have e6 : Ext G1 H1 G5 H5 := (e2.trans e3).trans ((Ext.heap e3.i s4).trans e5)
            refine ⟨acc, hd5, Nat.lt_of_lt_of_le hacc (szl_line (Nat.le_refl _)), G5, acc ++ [v], us ++ [y0], zs0, ⟨e6.g, fun b o q => ?_, fun b o q => ?_, e6.f⟩, g5, upd_same, (r2.mono (e3.g.trans e5.g)).append (.cons r5 .nil), l3, by rw [hy, ez, List.append_assoc]; rfl⟩
            · rw [upd_ne (ne_of_none q hD)]; exact e6.h b o q
            · rw [upd_ne (fun z => by rw [z, g5] at q; cases q)]; exact e6.i b o q
      · rintro H ⟨G2, acc, us, zs, e2, g2, hd2, r2, l2, hy⟩
        rw [List.drop_length] at l2
        cases l2
        rw [List.append_nil] at hy
        subst hy
        exact p1 D G2 H e2 hD g2 ⟨acc, hd2, r2⟩
    · exact p1.elim
section
variable {X : Cx} {ec : Nat → Addr} {W : WX} {G0 H0 : Hp} {elt tg iter : Expr} {ifs : List Expr} {scope : Scope} {own : List (Str × Nat)} {pos : Pos} {g : TG} {gd : GE} {fi : LF} {tt : TF} {te : EF} {vs : List Nat}
theorem sts_nil : PTs X [] (tDT X.K ec WNo bYes) := ⟨fun pins s σ H Q I ⟨G, env, sg, E, p⟩ => pts_nil.run pins s σ H Q I (p H (Same.refl _))⟩
theorem sts_one {c : Expr} (h : PT X c (tDT X.K ec WNo tt)) : PTs X [c] (tDT X.K ec WNo tt) := pts_one h
/-- a comprehension's block as a value -/
theorem sn_lc (tk : TgOk X.K vs g gd) (hv : own.map (·.2) = vs) (hc : X.calm = true) (hN : X.N.Nodup) (hi : PI X tg iter (tDI X.K ec W fi)) (ok : BlkOk X.N X.env.scope scope own)
    (hg : ∀ (s : Shared) (H : Hp) (C : Addr) (cl : List (Str × Addr)) (fp : List Addr), PG (X.blk s H scope (compEnvC scope cl C X.env) fp) tg g) (ht : ∀ (s : Shared) (H : Hp) (C : Addr) (cl : List (Str × Addr)) (fp : List Addr), PTs (X.blk s H scope (compEnvC scope cl C X.env) fp) ifs (tDT X.K ec WNo tt))
    (he : ∀ (s : Shared) (H : Hp) (C : Addr) (cl : List (Str × Addr)) (fp : List Addr), PE (X.blk s H scope (compEnvC scope cl C X.env) fp) elt (tD X.K ec WNo te)) (hs : ∀ x, foldedSetIterable iter X.env x = pure x := by intro _; rfl) :
    PE X (.ListComp elt [⟨tg, iter, ifs, 0⟩] scope pos) (tDN X.K ec W (eLc gd fi tt te)) :=
  PE_imp (pe_lc hc hN hi ok hg ht he hs) fun σ H Q h => by rw [hv]; exact tLc_N tk h
end
def sOwn (i : Nat) (f : EF) (env : Ev) : Out := (f (env.map Sl.pur)).out fun d => .nx (env.set i (.ow d))
section
variable {K : PySem.W.Frag} {ec : Nat → Addr} {W : WX} {G0 H0 G H : Hp} {D : Ends} {σ : L2.St} {env : Ev}
theorem tDN_own {f : EF} {i : Nat} (S : StR K G0 H0 G H σ env) (p : PostS K ec W G0 H0 G D (sOwn i f env)) : tDN K ec W f σ H fun x H1 => gName i x σ H1 D.nx := by
  refine ⟨G, _, S.x.i, S.envP, ?_⟩
  unfold sOwn at p
  cases q : f (env.map Sl.pur) with
  | ok d =>
    rw [q] at p
    intro l G' H' e n g o
    refine p _ G' H' e.g ((S.grow e).setO g (S.x.h.free n) o fun j d' hj qj hs => ?_)
    obtain ⟨l', h1, _, _, h4⟩ := S.ow j d' qj
    rw [hs] at h1
    cases h1
    obtain ⟨u, hu, _⟩ := h4.there
    rw [n] at hu
    cases hu
  | ex c => rw [q] at p; exact fun H' s => p σ H' (S.x.h.trans s)
  | no => rw [q] at p; exact p
end
section
variable {X : Cx} {ec : Nat → Addr} {W : WX} {G0 H0 : Hp} {e : Expr} {fe : EF} {pos pos' : Pos} {i : Nat} {x : Str}
theorem ss_own (hN : X.N.Nodup) (he : PE X e (tDN X.K ec W fe)) (hi : X.N[i]? = some x := by rfl) (hx : Loc X.env.scope x := by first | exact Or.inl rfl | exact Or.inr rfl) (hs : swapsWith e (some (.Name x pos')) pos.line X.env = pure false := by rfl)
    (hf : X.fn x = true ∨ X.env.scope.names.lookup x = some .local := by first | exact .inl rfl | exact .inr rfl | assumption) : PS X (.Assign [.Name x pos'] e pos) (tDS X.K ec W G0 H0 (sOwn i fe)) :=
  PS_imp (ps_set (i := i) hN hi hx he hs hf) fun D σ H ⟨G, env, S, p⟩ => tDN_own S p
variable {elt tg iter : Expr} {ifs : List Expr} {scope : Scope} {own : List (Str × Nat)} {spos py : Pos} {g : TG} {gd : GE} {fi : LF} {tt : TF} {te : EF} {vs : List Nat}
/-- name = [..] on one line, the name a local -/
theorem ss_ownLc (tk : TgOk X.K vs g gd) (hv : own.map (·.2) = vs) (hc : X.calm = true) (hN : X.N.Nodup) (hi : PI X tg iter (tDI X.K ec W fi)) (ok : BlkOk X.N X.env.scope scope own)
    (hg : ∀ (s : Shared) (H : Hp) (C : Addr) (cl : List (Str × Addr)) (fp : List Addr), PG (X.blk s H scope (compEnvC scope cl C X.env) fp) tg g) (ht : ∀ (s : Shared) (H : Hp) (C : Addr) (cl : List (Str × Addr)) (fp : List Addr), PTs (X.blk s H scope (compEnvC scope cl C X.env) fp) ifs (tDT X.K ec WNo tt))
    (he : ∀ (s : Shared) (H : Hp) (C : Addr) (cl : List (Str × Addr)) (fp : List Addr), PE (X.blk s H scope (compEnvC scope cl C X.env) fp) elt (tD X.K ec WNo te))
    (hy : X.N[i]? = some x := by rfl) (hyl : X.env.scope.names.lookup x = some .local := by rfl) (hsw : swapsWith (.ListComp elt [⟨tg, iter, ifs, 0⟩] scope pos) (some (.Name x py)) spos.line X.env = pure true := by exact sw_true rfl rfl rfl (by decide +kernel)) (hs : ∀ x, foldedSetIterable iter X.env x = pure x := by intro _; rfl) :
    PS X (.Assign [.Name x py] (.ListComp elt [⟨tg, iter, ifs, 0⟩] scope pos) spos) (tDS X.K ec W G0 H0 (sOwn i (eLc gd fi tt te))) :=
  PS_imp (ps_setLc (i := i) hc hN hy hyl hsw hi ok hg ht he hs) fun D σ H ⟨G, env, S, p⟩ => by
    show tLc _ g _ _ _ σ H _
    rw [hv]
    exact tLc_N tk (tDN_own S p)
end

/-! ### changes of what is owned -/
def sApp (m : Md) (i : Nat) (f : EF) (env : Ev) : Out := match env[i]? with
  | some (.ow (.list ds)) => (evM m f env).out fun d => if ds.length < szl then .nx (env.set i (.ow (.list (ds ++ [d])))) else .no
  | _ => .no
def sExt (m : Md) (i : Nat) (f : EF) (env : Ev) : Out := match env[i]? with
  | some (.ow (.list ds)) => (evM m f env).out fun d => match d with
    | .list es => if ds.length + es.length ≤ szl then .nx (env.set i (.ow (.list (ds ++ es)))) else .no
    | _ => .no
  | _ => .no
/-- xs[k] = v: the value first -/
def sPut (mv mk : Md) (i : Nat) (fv fk : EF) (env : Ev) : Out := match env[i]? with
  | some (.ow (.list ds)) => (evM mv fv env).out fun d => (evM mk fk env).out fun k => match k with
    | .int j => match ixN ds.length j with
      | some n => .nx (env.set i (.ow (.list (ds.set n d))))
      | none => .no
    | _ => .no
  | _ => .no
section
variable {X : Cx}
def rExtendR (K : PySem.W.Frag) : V → List V → Hp → VK → Prop := fun x vs H Q => ∃ l b xs zs, x = .ref l ∧ vs = [.ref b] ∧ H l = some (.lst xs) ∧ LsL K H b zs ∧ xs.length + zs.length ≤ sizeLine ∧ Q .non (upd H l (.lst (xs ++ zs)))
theorem mt_extendR : MtM X "list.extend" (rExtendR X.K) := fun pins s σ H x vs v us Q I rx rv ⟨l, b, xs, zs, ex, ev, hl, hb, hz, q⟩ => by
  subst ex ev
  obtain rfl : v = Value.ref l := rx
  obtain rfl : us = [Value.ref b] := rv.ref1
  obtain ⟨is, n, r1, l1, _, o1⟩ := ls_obj I (.of hl)
  obtain ⟨js, m, r2, l2, f2, o2⟩ := ls_obj I hb
  have fit : is.toArray.size + js.toArray.size ≤ sizeLine := by simp only [List.size_toArray, l1, l2]; exact hz
  have short : ¬ (!is.toArray.isEmpty && Builtin.List.listTooLong (is.toArray.size + js.toArray.size)) = true := by rw [notLongL fit, Bool.and_false]; exact Bool.false_ne_true
  have inner := AutoSeq1.list_extend_list_list_0 l is.toArray n b js.toArray m short (by omega) (by omega)
  have long : (xs ++ zs).length ≤ sizeLine := by simp only [List.length_append]; exact hz
  exact call_meets F.slot_list_extend ⟨_, o1, rfl⟩ F.entry_list_extend (F.args_list_extend_2 _ _) inner ⟨o1, o2, ⟨.non, _, I.lset (its' := is ++ js) hl o1 (by simp) (r1.append r2) long, rfl, q⟩⟩
end
section
variable {X : Cx} {ec : Nat → Addr} {W : WX} {G0 H0 : Hp} {e k : Expr} {fe fk : EF} {p apos cpos pos tpos : Pos} {i : Nat} {x : Str}
theorem ss_app (m : Md) (he : PE X e (tD X.K ec W fe)) (hi : X.N[i]? = some x := by rfl) (hv : Vis X.env.scope x := by first | exact Or.inl rfl | exact Or.inr (Or.inl rfl) | exact Or.inr (Or.inr rfl)) (hd : (x == ("__debug__" : Str)) = false := by decide) (hcd : (x == ("__classdict__" : Str)) = false := by decide)
    (hfew : ((backTo cpos (starEach [e] X.env)).all (fun x => !x.1) && (backToKw cpos (keywordEach [] X.env)).all (fun x => x.1.isSome)
      && decide (([e] : List Expr).length + ([] : List Keyword).length + (if ([] : List Keyword).isEmpty then 0 else 1) < 30)) = true := by rfl)
    (hline : (apos.endLine == cpos.line) = true := by rfl) (hs : starEach [e] X.env = (false, eval e X.env) :: starEach [] X.env := by rfl) :
    PS X (.Expr (.Call (.Attribute (.Name x p) "append" apos) [e] [] cpos) pos) (tDS X.K ec W G0 H0 (sApp m i fe)) := by
  refine PS_imp (ps_expr (pe_bm PySem.F.plainAttrs_list PySem.F.slot_list_append PySem.F.type_list_append mt_append (pe_var hi hv hd hcd) (pa_cons he pa_nil hs) rfl hfew hline hs rfl)) fun D σ H ⟨G, env, S, p⟩ => ?_
  unfold sApp at p
  split at p
  · rename_i ds q
    obtain ⟨l, h1, h2, h3, vs, h4, h5⟩ := S.ow i _ q
    refine ⟨_, h1, .inl ⟨rfl, vs, SqL.of h4⟩, tD_M (m := m) S (PostE.out p fun v d G' H' _ g S' r p' => ?_)⟩
    obtain ⟨l', h1', h2', h3', vs', h4', h5'⟩ := S'.ow i _ q
    rw [h1] at h1'
    cases h1'
    split at p'
    · rename_i hz
      refine ⟨l, vs', v, rfl, rfl, h4', Nat.lt_of_lt_of_le (by rw [h5'.length]; exact hz) (szl_line (Nat.le_refl _)), ?_⟩
      exact p' σ G' _ (Same.refl _) (S'.mut q h1 ⟨_, upd_same, h5'.append (.cons r .nil)⟩)
    · exact p'.elim
  · exact p.elim
theorem ss_ext (m : Md) (he : PE X e (tD X.K ec W fe)) (hi : X.N[i]? = some x := by rfl) (hv : Vis X.env.scope x := by first | exact Or.inl rfl | exact Or.inr (Or.inl rfl) | exact Or.inr (Or.inr rfl)) (hd : (x == ("__debug__" : Str)) = false := by decide) (hcd : (x == ("__classdict__" : Str)) = false := by decide)
    (hfew : ((backTo cpos (starEach [e] X.env)).all (fun x => !x.1) && (backToKw cpos (keywordEach [] X.env)).all (fun x => x.1.isSome)
      && decide (([e] : List Expr).length + ([] : List Keyword).length + (if ([] : List Keyword).isEmpty then 0 else 1) < 30)) = true := by rfl)
    (hline : (apos.endLine == cpos.line) = true := by rfl) (hs : starEach [e] X.env = (false, eval e X.env) :: starEach [] X.env := by rfl) :
    PS X (.Expr (.Call (.Attribute (.Name x p) "extend" apos) [e] [] cpos) pos) (tDS X.K ec W G0 H0 (sExt m i fe)) := by
  refine PS_imp (ps_expr (pe_bm PySem.F.plainAttrs_list PySem.F.slot_list_extend PySem.F.type_list_extend mt_extendR (pe_var hi hv hd hcd) (pa_cons he pa_nil hs) rfl hfew hline hs rfl)) fun D σ H ⟨G, env, S, p⟩ => ?_
  unfold sExt at p
  split at p
  · rename_i ds q
    obtain ⟨l, h1, h2, h3, vs, h4, h5⟩ := S.ow i _ q
    refine ⟨_, h1, .inl ⟨rfl, vs, SqL.of h4⟩, tD_M (m := m) S (PostE.out p fun v d G' H' _ g S' r p' => ?_)⟩
    obtain ⟨l', h1', h2', h3', vs', h4', h5'⟩ := S'.ow i _ q
    rw [h1] at h1'
    cases h1'
    cases r with
    | @lst b zs es hb rz =>
      dsimp only at p'
      split at p'
      · rename_i hz
        refine ⟨l, b, vs', zs, rfl, rfl, h4', ls_same S'.x.i hb, szl_line (by rw [h5'.length, rz.length]; exact hz), ?_⟩
        exact p' σ G' _ (Same.refl _) (S'.mut q h1 ⟨_, upd_same, h5'.append rz⟩)
      · exact p'.elim
    | _ => exact p'.elim
  · exact p.elim
theorem ss_put (mv mk : Md) (he : PE X e (tD X.K ec W fe)) (hk : PE X k (tD X.K ec W fk)) (hi : X.N[i]? = some x := by rfl) (hv : Vis X.env.scope x := by first | exact Or.inl rfl | exact Or.inr (Or.inl rfl) | exact Or.inr (Or.inr rfl)) (hd : (x == ("__debug__" : Str)) = false := by decide) (hcd : (x == ("__classdict__" : Str)) = false := by decide)
    (ha : ∀ v, assign (.Subscript (.Name x p) k tpos) X.env v = (do
      let ov ← holding [v] (eval (.Name x p) X.env)
      let iv ← holding [v, ov] (eval k X.env)
      standAt tpos
      holding [v, ov, iv] (setItem ov iv v)
      release [v, ov, iv] []) := by intro _; rfl) (hs : swapsWithSole [.Subscript (.Name x p) k tpos] e pos.line X.env = pure false := by rfl) (hw : swappedStores [.Subscript (.Name x p) k tpos] e X.env = pure none := by rfl)
    (h1 : (assignEach [.Subscript (.Name x p) k tpos] X.env).map (·.2) = [assign (.Subscript (.Name x p) k tpos) X.env] := by rfl) :
    PS X (.Assign [.Subscript (.Name x p) k tpos] e pos) (tDS X.K ec W G0 H0 (sPut mv mk i fe fk)) := by
  refine PS_imp (ps_asg he (pg_sub (pe_var hi hv hd hcd) hk set_list ha) hs hw h1) fun D σ H ⟨G, env, S, p⟩ => ?_
  unfold sPut at p
  split at p
  · rename_i ds q
    refine tD_M (m := mv) S (PostE.out p fun v d G1 H1 _ g1 S1 r1 p1 => ?_)
    obtain ⟨l, a1, a2, a3, vs, a4, a5⟩ := S1.ow i _ q
    refine ⟨_, a1, tD_M (m := mk) S1 (PostE.out p1 fun kv kd G2 H2 _ g2 S2 r2 p2 => ?_)⟩
    obtain ⟨l', b1, b2, b3, vs', b4, b5⟩ := S2.ow i _ q
    rw [a1] at b1
    cases b1
    cases r2 with
    | int j =>
      dsimp only at p2
      split at p2
      · rename_i n hn
        refine ⟨l, vs', j, n, rfl, rfl, b4, by rw [b5.length]; exact hn, ?_⟩
        exact p2 σ G2 _ (Same.refl _) (S2.mut q a1 ⟨_, upd_same, b5.set (r1.mono g2) n⟩)
      · exact p2.elim
    | _ => exact p2.elim
  · exact p.elim
end
end PL
/-! PL, part g: built-ins, dicts. -/
namespace PL
open PySem PySem.Spec PyProof.Rows L2

/-! ### built-ins -/
def gLen : List PyData → R PyData
  | [.list ds] => .ok (.int ds.length)
  | [.tuple ds] => .ok (.int ds.length)
  | [.str z] => if z.length ≤ szl then .ok (.int z.length) else .no
  | _ => .no
def gAbs : List PyData → R PyData
  | [.int i] => .ok (.int (if i < 0 then -i else i))
  | _ => .no
def gMax2 : List PyData → R PyData
  | [.int i, .int j] => .ok (.int (if j > i then j else i))
  | _ => .no
def gMin2 : List PyData → R PyData
  | [.int i, .int j] => .ok (.int (if j < i then j else i))
  | _ => .no
def gInt : List PyData → R PyData
  | [.int i] => .ok (.int i)
  | [.bool b] => .ok (.int (if b then 1 else 0))
  | _ => .no
def intsOf : List PyData → Option (List Int)
  | [] => some []
  | .int i :: r => (intsOf r).map (i :: ·)
  | _ :: _ => none
def boolsOf : List PyData → Option (List Bool)
  | [] => some []
  | .bool i :: r => (boolsOf r).map (i :: ·)
  | _ :: _ => none
theorem intsOf_eq : ∀ {ds : List PyData} {ns : List Int}, intsOf ds = some ns → ds = ns.map PyData.int
  | [], _, h => by cases h; rfl
  | d :: r, ns, h => by
    cases d with
    | int i =>
      unfold intsOf at h
      cases q : intsOf r with
      | none => rw [q] at h; cases h
      | some ms => rw [q] at h; cases h; rw [intsOf_eq q]; rfl
    | _ => cases h
theorem boolsOf_eq : ∀ {ds : List PyData} {ns : List Bool}, boolsOf ds = some ns → ds = ns.map PyData.bool
  | [], _, h => by cases h; rfl
  | d :: r, ns, h => by
    cases d with
    | bool i =>
      unfold boolsOf at h
      cases q : boolsOf r with
      | none => rw [q] at h; cases h
      | some ms => rw [q] at h; cases h; rw [boolsOf_eq q]; rfl
    | _ => cases h
theorem intsOf_map (ns : List Int) : intsOf (ns.map PyData.int) = some ns := by
  induction ns with
  | nil => rfl
  | cons n ns ih => simp [intsOf, ih]
theorem boolsOf_map (ns : List Bool) : boolsOf (ns.map PyData.bool) = some ns := by
  induction ns with
  | nil => rfl
  | cons n ns ih => simp [boolsOf, ih]
def gSum : List PyData → R PyData
  | [.list ds] => match intsOf ds with
    | some ns => .ok (.int ns.sum)
    | none => .no
  | _ => .no
/-- the greatest, the least of a list that isn't empty -/
def maxL : List Int → Int
  | [] => 0
  | [x] => x
  | x :: r => max x (maxL r)
def minL : List Int → Int
  | [] => 0
  | [x] => x
  | x :: r => min x (minL r)
theorem maxL_mem : ∀ {xs : List Int}, xs ≠ [] → maxL xs ∈ xs ∧ ∀ y ∈ xs, y ≤ maxL xs
  | [x], _ => by simp [maxL]
  | x :: y :: r, _ => by
    obtain ⟨h1, h2⟩ := maxL_mem (xs := y :: r) (by simp)
    have e : maxL (x :: y :: r) = max x (maxL (y :: r)) := rfl
    refine ⟨?_, fun z hz => ?_⟩
    · rw [e]
      by_cases h : x ≤ maxL (y :: r)
      · rw [Int.max_eq_right h]; exact List.mem_cons_of_mem _ h1
      · rw [Int.max_eq_left (by omega)]; exact List.mem_cons_self
    · rw [e]
      rcases List.mem_cons.mp hz with rfl | hz
      · omega
      · have := h2 z hz; omega
theorem minL_mem : ∀ {xs : List Int}, xs ≠ [] → minL xs ∈ xs ∧ ∀ y ∈ xs, minL xs ≤ y
  | [x], _ => by simp [minL]
  | x :: y :: r, _ => by
    obtain ⟨h1, h2⟩ := minL_mem (xs := y :: r) (by simp)
    have e : minL (x :: y :: r) = min x (minL (y :: r)) := rfl
    refine ⟨?_, fun z hz => ?_⟩
    · rw [e]
      by_cases h : x ≤ minL (y :: r)
      · rw [Int.min_eq_left h]; exact List.mem_cons_self
      · rw [Int.min_eq_right (by omega)]; exact List.mem_cons_of_mem _ h1
    · rw [e]
      rcases List.mem_cons.mp hz with rfl | hz
      · omega
      · have := h2 z hz; omega
def gMaxL : List PyData → R PyData
  | [.list ds] => match intsOf ds with
    | some (n :: ns) => .ok (.int (maxL (n :: ns)))
    | _ => .no
  | _ => .no
def gMinL : List PyData → R PyData
  | [.list ds] => match intsOf ds with
    | some (n :: ns) => .ok (.int (minL (n :: ns)))
    | _ => .no
  | _ => .no
def gAll : List PyData → R PyData
  | [.list ds] => match boolsOf ds with
    | some bs => .ok (.bool (bs.all id))
    | none => .no
  | _ => .no
def gAny : List PyData → R PyData
  | [.list ds] => match boolsOf ds with
    | some bs => .ok (.bool (bs.any id))
    | none => .no
  | _ => .no
def gTuple : List PyData → R PyData
  | [.list ds] => .ok (.tuple ds)
  | [.tuple ds] => .ok (.tuple ds)
  | _ => .no
def gList : List PyData → R PyData
  | [.list ds] => .ok (.list ds)
  | [.tuple ds] => .ok (.list ds)
  | _ => .no
section
variable {X : Cx} {K : PySem.W.Frag}
theorem cd_len : CallD K (fun xs H Q => ∃ x n, xs = [x] ∧ LenV K x H n ∧ Q (.int n) H) gLen := by
  intro vs ds d G H Q i r h q
  unfold gLen at h
  split at h
  · cases h
    cases r with
    | cons a b =>
      cases b
      cases a with
      | @lst l xs _ hl r => exact ⟨_, xs.length, rfl, .inl ⟨xs, (ls_same i hl).sq, rfl⟩, by rw [r.length]; exact q _ G H (Ext.refl i) (.int _)⟩
  · cases h
    cases r with
    | cons a b =>
      cases b
      cases a with
      | @tup l xs _ hl r => exact ⟨_, xs.length, rfl, .inr ⟨xs, sqT_same i hl, rfl⟩, by rw [r.length]; exact q _ G H (Ext.refl i) (.int _)⟩
  · split at h
    · rename_i hz
      cases h
      cases r with
      | cons a b =>
        cases b
        cases a
        exact ⟨_, _, rfl, ⟨szl_line hz, rfl⟩, q _ G H (Ext.refl i) (.int _)⟩
    · cases h
  · cases h
theorem cd_abs : CallD K (fun xs H Q => ∃ i, xs = [.int i] ∧ Q (.int (if i < 0 then -i else i)) H) gAbs := by
  intro vs ds d G H Q i r h q
  unfold gAbs at h
  split at h
  · cases h
    cases r with
    | cons a b =>
      cases b
      cases a
      exact ⟨_, rfl, q _ G H (Ext.refl i) (.int _)⟩
  · cases h
theorem cd_max2 : CallD K (fun xs H Q => ∃ i j, xs = [.int i, .int j] ∧ Q (.int (if j > i then j else i)) H) gMax2 := by
  intro vs ds d G H Q i r h q
  unfold gMax2 at h
  split at h
  · cases h
    cases r with
    | cons a b =>
      cases b with
      | cons b c =>
        cases c
        cases a
        cases b
        exact ⟨_, _, rfl, q _ G H (Ext.refl i) (.int _)⟩
  · cases h
theorem cd_min2 : CallD K (fun xs H Q => ∃ i j, xs = [.int i, .int j] ∧ Q (.int (if j < i then j else i)) H) gMin2 := by
  intro vs ds d G H Q i r h q
  unfold gMin2 at h
  split at h
  · cases h
    cases r with
    | cons a b =>
      cases b with
      | cons b c =>
        cases c
        cases a
        cases b
        exact ⟨_, _, rfl, q _ G H (Ext.refl i) (.int _)⟩
  · cases h
theorem cd_int : CallD K (fun xs H Q => (∃ i, xs = [.int i] ∧ Q (.int i) H) ∨ ∃ k, xs = [.bl k] ∧ Q (.int (if k then 1 else 0)) H) gInt := by
  intro vs ds d G H Q i r h q
  unfold gInt at h
  split at h
  · cases h
    cases r with
    | cons a b =>
      cases b
      cases a
      exact .inl ⟨_, rfl, q _ G H (Ext.refl i) (.int _)⟩
  · cases h
    cases r with
    | cons a b =>
      cases b
      cases a
      exact .inr ⟨_, rfl, q _ G H (Ext.refl i) (.int _)⟩
  · cases h
theorem ints_rd {G H : Hp} {v : V} {ds : List PyData} {ns : List Int} (i : Same G H) (r : Rep K G v (.list ds)) (e : intsOf ds = some ns) : ∃ a, v = .ref a ∧ SqL K H a (ns.map V.int) := by
  cases r with
  | @lst l xs _ hl r =>
    rw [intsOf_eq e] at r
    have := r.ints
    subst this
    exact ⟨l, rfl, (ls_same i hl).sq⟩
theorem bools_rd {G H : Hp} {v : V} {ds : List PyData} {ns : List Bool} (i : Same G H) (r : Rep K G v (.list ds)) (e : boolsOf ds = some ns) : ∃ a, v = .ref a ∧ SqL K H a (ns.map V.bl) := by
  cases r with
  | @lst l xs _ hl r =>
    rw [boolsOf_eq e] at r
    have := r.bls
    subst this
    exact ⟨l, rfl, (ls_same i hl).sq⟩
theorem cd_sum : CallD K (rSum K) gSum := by
  intro vs ds d G H Q i r h q
  unfold gSum at h
  split at h
  · split at h
    · rename_i ns e
      cases h
      cases r with
      | cons a b =>
        cases b
        obtain ⟨l, rfl, hs⟩ := ints_rd i a e
        exact ⟨l, ns, rfl, hs, q _ G H (Ext.refl i) (.int _)⟩
    · cases h
  · cases h
theorem cd_maxL : CallD K (rMax K) gMaxL := by
  intro vs ds d G H Q i r h q
  unfold gMaxL at h
  split at h
  · split at h
    · rename_i n ns e
      cases h
      cases r with
      | cons a b =>
        cases b
        obtain ⟨l, rfl, hs⟩ := ints_rd i a e
        refine ⟨l, n :: ns, rfl, hs, by simp, fun m hm hle => ?_⟩
        obtain ⟨h1, h2⟩ := maxL_mem (xs := n :: ns) (by simp)
        have e : m = maxL (n :: ns) := Int.le_antisymm (h2 m hm) (hle _ h1)
        rw [e]
        exact q _ G H (Ext.refl i) (.int _)
    · cases h
  · cases h
theorem cd_minL : CallD K (rMin K) gMinL := by
  intro vs ds d G H Q i r h q
  unfold gMinL at h
  split at h
  · split at h
    · rename_i n ns e
      cases h
      cases r with
      | cons a b =>
        cases b
        obtain ⟨l, rfl, hs⟩ := ints_rd i a e
        refine ⟨l, n :: ns, rfl, hs, by simp, fun m hm hle => ?_⟩
        obtain ⟨h1, h2⟩ := minL_mem (xs := n :: ns) (by simp)
        have e : m = minL (n :: ns) := Int.le_antisymm (hle _ h1) (h2 m hm)
        rw [e]
        exact q _ G H (Ext.refl i) (.int _)
    · cases h
  · cases h
theorem cd_all : CallD K (rAll K) gAll := by
  intro vs ds d G H Q i r h q
  unfold gAll at h
  split at h
  · split at h
    · rename_i ns e
      cases h
      cases r with
      | cons a b =>
        cases b
        obtain ⟨l, rfl, hs⟩ := bools_rd i a e
        exact ⟨l, ns, rfl, hs, q _ G H (Ext.refl i) (.bl _)⟩
    · cases h
  · cases h
theorem cd_any : CallD K (rAny K) gAny := by
  intro vs ds d G H Q i r h q
  unfold gAny at h
  split at h
  · split at h
    · rename_i ns e
      cases h
      cases r with
      | cons a b =>
        cases b
        obtain ⟨l, rfl, hs⟩ := bools_rd i a e
        exact ⟨l, ns, rfl, hs, q _ G H (Ext.refl i) (.bl _)⟩
    · cases h
  · cases h
theorem cd_tuple : CallD K (fun xs H Q => ∃ p ys, xs = [.ref p] ∧ ((SqL K H p ys ∧ ∀ l, H l = none → Q (.ref l) (upd H l (.tup ys))) ∨ (SqT K H p ys ∧ Q (.ref p) H))) gTuple := by
  intro vs ds d G H Q i r h q
  unfold gTuple at h
  split at h
  · cases h
    cases r with
    | cons a b =>
      cases b
      cases a with
      | @lst l xs _ hl r => exact ⟨l, xs, rfl, .inl ⟨(ls_same i hl).sq, fun p n => q _ _ _ (Ext.new i n) (ext_tup i n r)⟩⟩
  · cases h
    cases r with
    | cons a b =>
      cases b
      cases a with
      | @tup l xs _ hl r => exact ⟨l, xs, rfl, .inr ⟨sqT_same i hl, q _ G H (Ext.refl i) (.tup hl r)⟩⟩
  · cases h
theorem cd_list : CallD K (fun xs H Q => ∃ p ys, xs = [.ref p] ∧ (SqL K H p ys ∨ SqT K H p ys) ∧ ∀ l, H l = none → Q (.ref l) (upd H l (.lst ys))) gList := by
  intro vs ds d G H Q i r h q
  unfold gList at h
  split at h
  · cases h
    cases r with
    | cons a b =>
      cases b
      cases a with
      | @lst l xs _ hl r => exact ⟨l, xs, rfl, .inl ((ls_same i hl).sq), fun p n => q _ _ _ (Ext.new i n) (ext_list i n r)⟩
  · cases h
    cases r with
    | cons a b =>
      cases b
      cases a with
      | @tup l xs _ hl r => exact ⟨l, xs, rfl, .inr (sqT_same i hl), fun p n => q _ _ _ (Ext.new i n) (ext_list i n r)⟩
  · cases h
theorem xl_len : NoExL gLen := by
  intro x c h
  unfold gLen at h
  split at h
  · cases h
  · cases h
  · split at h <;> cases h
  · cases h
theorem xl_abs : NoExL gAbs := by
  intro x c h
  unfold gAbs at h
  split at h <;> cases h
theorem xl_max2 : NoExL gMax2 := by
  intro x c h
  unfold gMax2 at h
  split at h <;> cases h
theorem xl_min2 : NoExL gMin2 := by
  intro x c h
  unfold gMin2 at h
  split at h <;> cases h
theorem xl_int : NoExL gInt := by
  intro x c h
  unfold gInt at h
  split at h <;> cases h
theorem xl_sum : NoExL gSum := by
  intro x c h
  unfold gSum at h
  split at h
  · split at h <;> cases h
  · cases h
theorem xl_maxL : NoExL gMaxL := by
  intro x c h
  unfold gMaxL at h
  split at h
  · split at h <;> cases h
  · cases h
theorem xl_minL : NoExL gMinL := by
  intro x c h
  unfold gMinL at h
  split at h
  · split at h <;> cases h
  · cases h
theorem xl_all : NoExL gAll := by
  intro x c h
  unfold gAll at h
  split at h
  · split at h <;> cases h
  · cases h
theorem xl_any : NoExL gAny := by
  intro x c h
  unfold gAny at h
  split at h
  · split at h <;> cases h
  · cases h
theorem xl_tuple : NoExL gTuple := by
  intro x c h
  unfold gTuple at h
  split at h <;> cases h
theorem xl_list : NoExL gList := by
  intro x c h
  unfold gList at h
  split at h <;> cases h
end
section
variable {X : Cx} {ec : Nat → Addr} {W : WX} {e e2 : Expr} {fs : List EF} {f : EF} {p q pos : Pos}
theorem se_len (hg : Gl X "len") (hm : X.mg "len" = none) (ha : PA X [e] (tDA X.K ec W fs)) (he : starEach [e] X.env = (false, eval e X.env) :: starEach [] X.env := by rfl) : PE X (.Call (.Name "len" p) [e] [] pos) (tD X.K ec W (eCall gLen fs)) := se_callB call_len cd_len xl_len hg hm boot_len ha (he := he) (hpl := rfl)
theorem se_abs (hg : Gl X "abs") (hm : X.mg "abs" = none) (ha : PA X [e] (tDA X.K ec W fs)) (he : starEach [e] X.env = (false, eval e X.env) :: starEach [] X.env := by rfl) : PE X (.Call (.Name "abs" p) [e] [] pos) (tD X.K ec W (eCall gAbs fs)) := se_callB call_abs cd_abs xl_abs hg hm (by decide +kernel) ha (he := he) (hpl := rfl)
theorem se_max2 (hc : X.calm = true) (hg : Gl X "max") (hm : X.mg "max" = none) (ha : PA X [e, e2] (tDA X.K ec W fs)) (he : starEach [e, e2] X.env = (false, eval e X.env) :: starEach [e2] X.env := by rfl) (hpl : (backTo pos (starEach [e2] X.env)).any (·.1) = false := by rfl) : PE X (.Call (.Name "max" p) [e, e2] [] pos) (tD X.K ec W (eCall gMax2 fs)) := se_callB (call_max2 hc) cd_max2 xl_max2 hg hm (by decide +kernel) ha (he := he) (hpl := hpl)
theorem se_min2 (hc : X.calm = true) (hg : Gl X "min") (hm : X.mg "min" = none) (ha : PA X [e, e2] (tDA X.K ec W fs)) (he : starEach [e, e2] X.env = (false, eval e X.env) :: starEach [e2] X.env := by rfl) (hpl : (backTo pos (starEach [e2] X.env)).any (·.1) = false := by rfl) : PE X (.Call (.Name "min" p) [e, e2] [] pos) (tD X.K ec W (eCall gMin2 fs)) := se_callB (call_min2 hc) cd_min2 xl_min2 hg hm (by decide +kernel) ha (he := he) (hpl := hpl)
theorem se_intc (hg : Gl X "int") (hm : X.mg "int" = none) (ha : PA X [e] (tDA X.K ec W fs)) (he : starEach [e] X.env = (false, eval e X.env) :: starEach [] X.env := by rfl) : PE X (.Call (.Name "int" p) [e] [] pos) (tD X.K ec W (eCall gInt fs)) := se_callTy call_int1 cd_int xl_int hg hm (by decide +kernel) ha (he := he) (hpl := rfl)
theorem se_sum (hc : X.calm = true) (hg : Gl X "sum") (hm : X.mg "sum" = none) (ha : PA X [e] (tDA X.K ec W fs)) (he : starEach [e] X.env = (false, eval e X.env) :: starEach [] X.env := by rfl) : PE X (.Call (.Name "sum" p) [e] [] pos) (tD X.K ec W (eCall gSum fs)) := se_callB (cr_sum hc) cd_sum xl_sum hg hm (by decide +kernel) ha (he := he) (hpl := rfl)
theorem se_maxL (hc : X.calm = true) (hg : Gl X "max") (hm : X.mg "max" = none) (ha : PA X [e] (tDA X.K ec W fs)) (he : starEach [e] X.env = (false, eval e X.env) :: starEach [] X.env := by rfl) : PE X (.Call (.Name "max" p) [e] [] pos) (tD X.K ec W (eCall gMaxL fs)) := se_callB (cr_max hc) cd_maxL xl_maxL hg hm (by decide +kernel) ha (he := he) (hpl := rfl)
theorem se_minL (hc : X.calm = true) (hg : Gl X "min") (hm : X.mg "min" = none) (ha : PA X [e] (tDA X.K ec W fs)) (he : starEach [e] X.env = (false, eval e X.env) :: starEach [] X.env := by rfl) : PE X (.Call (.Name "min" p) [e] [] pos) (tD X.K ec W (eCall gMinL fs)) := se_callB (cr_min hc) cd_minL xl_minL hg hm (by decide +kernel) ha (he := he) (hpl := rfl)
theorem se_all (hc : X.calm = true) (hg : Gl X "all") (hm : X.mg "all" = none) (ha : PA X [e] (tDA X.K ec W fs)) (he : starEach [e] X.env = (false, eval e X.env) :: starEach [] X.env := by rfl) : PE X (.Call (.Name "all" p) [e] [] pos) (tD X.K ec W (eCall gAll fs)) := se_callB (cr_all hc) cd_all xl_all hg hm (by decide +kernel) ha (he := he) (hpl := rfl)
theorem se_any (hc : X.calm = true) (hg : Gl X "any") (hm : X.mg "any" = none) (ha : PA X [e] (tDA X.K ec W fs)) (he : starEach [e] X.env = (false, eval e X.env) :: starEach [] X.env := by rfl) : PE X (.Call (.Name "any" p) [e] [] pos) (tD X.K ec W (eCall gAny fs)) := se_callB (cr_any hc) cd_any xl_any hg hm (by decide +kernel) ha (he := he) (hpl := rfl)
theorem se_tuple (hg : Gl X "tuple") (hm : X.mg "tuple" = none) (ha : PA X [e] (tDA X.K ec W fs)) (he : starEach [e] X.env = (false, eval e X.env) :: starEach [] X.env := by rfl) : PE X (.Call (.Name "tuple" p) [e] [] pos) (tD X.K ec W (eCall gTuple fs)) := se_callTy call_tuple_of cd_tuple xl_tuple hg hm (by decide +kernel) ha (he := he) (hpl := rfl)
theorem se_list (hg : Gl X "list") (hm : X.mg "list" = none) (ha : PA X [e] (tDA X.K ec W fs)) (he : starEach [e] X.env = (false, eval e X.env) :: starEach [] X.env := by rfl) : PE X (.Call (.Name "list" p) [e] [] pos) (tD X.K ec W (eCall gList fs)) := se_callTy call_list_of cd_list xl_list hg hm (by decide +kernel) ha (he := he) (hpl := rfl)
end

/-! ### isinstance of a built-in type -/
def tyN : PyData → String
  | .none => "NoneType"
  | .bool _ => "bool"
  | .int _ => "int"
  | .str _ => "str"
  | .list _ => "list"
  | .tuple _ => "tuple"
  | .dict _ => "dict"
def dIsi (T : String) (d : PyData) : R PyData := match kitB (tyN d) T with
  | some b => .ok (.bool b)
  | none => .no
theorem tyX_of {K : PySem.W.Frag} {G H : Hp} {v : V} {d : PyData} (i : Same G H) (r : Rep K G v d) : TyX K H v (.type (tyN d)) := by
  cases r with
  | non => exact .base .non
  | bl b => exact .base (.bl b)
  | int b => exact .base (.int b)
  | str b => exact .base (.str b)
  | lst h _ =>
    rcases h with (h | ⟨o, h⟩) | ⟨its, n, h1, _⟩
    · exact .base (.lst (i _ _ h))
    · exact .base (.frz (i _ _ h))
    · exact .kList h1 rfl
  | tup h _ =>
    rcases h with (h | ⟨o, h⟩) | ⟨o, its, n, h1, h2, h3⟩
    · exact .base (.tup (i _ _ h))
    · exact .fTuple (i _ _ h)
    · exact .kTuple h1 h2
  | dct h _ _ => exact .base (.dK (i _ _ h))
section
variable {X : Cx} {ec : Nat → Addr} {W : WX} {e : Expr} {f : EF} {p q pos : Pos} {T : String} {x : Str}
theorem se_isi (hg : Gl X "isinstance") (hm : X.mg "isinstance" = none) (ha : PE X e (tD X.K ec W f)) (hgT : Gl X x) (hmT : X.mg x = none) (hT : bootBuiltins x = some (.type T)) (hnT : x ≠ "__name__" := by decide) (hdT : (x == ("__debug__" : Str)) = false := by decide)
    (he : starEach [e, .Name x q] X.env = (false, eval e X.env) :: starEach [.Name x q] X.env := by rfl) : PE X (.Call (.Name "isinstance" p) [e, .Name x q] [] pos) (tD X.K ec W (eUn (dIsi T) f)) := by
  refine PE_imp (pe_callB (t := tCons (tD X.K ec W f) (tCons (tC (.ty T)) tNil)) call_isi hg hm (by decide +kernel) (pa_cons ha (pa_cons (pe_bltn (v := .ty T) hgT hmT hT rfl hnT hdT) pa_nil rfl) he) (by decide) (by decide) he rfl) fun σ H Q ⟨G, env, s, E, p⟩ => ?_
  refine ⟨G, env, s, E, Post.bind p fun v d G1 H1 _ e1 r1 p1 => ?_⟩
  unfold dIsi at p1
  split at p1
  · rename_i b hb
    exact ⟨v, .ty T, .type (tyN d), .type T, b, rfl, .ty T, tyX_of e1.i r1, kit_ty hb, p1 _ G1 H1 (Ext.refl e1.i) (.bl _)⟩
  · exact p1.elim
end
theorem dIsi_of {T : String} {d : PyData} {b : Bool} (h : kitB (tyN d) T = some b) : dIsi T d = .ok (.bool b) := by unfold dIsi; rw [h]
def is_int : PyData → Bool
  | .int _ => true
  | .bool _ => true
  | _ => false
theorem isi_int (d : PyData) : dIsi "int" d = .ok (.bool (is_int d)) := by
  cases d with
  | none => exact dIsi_of (b := false) (show kitB "NoneType" "int" = some false by decide +kernel)
  | bool x => exact dIsi_of (b := true) (show kitB "bool" "int" = some true by decide +kernel)
  | int x => exact dIsi_of (b := true) (show kitB "int" "int" = some true by decide +kernel)
  | str x => exact dIsi_of (b := false) (show kitB "str" "int" = some false by decide +kernel)
  | list x => exact dIsi_of (b := false) (show kitB "list" "int" = some false by decide +kernel)
  | tuple x => exact dIsi_of (b := false) (show kitB "tuple" "int" = some false by decide +kernel)
  | dict x => exact dIsi_of (b := false) (show kitB "dict" "int" = some false by decide +kernel)
def is_bool : PyData → Bool
  | .bool _ => true
  | _ => false
theorem isi_bool (d : PyData) : dIsi "bool" d = .ok (.bool (is_bool d)) := by
  cases d with
  | none => exact dIsi_of (b := false) (show kitB "NoneType" "bool" = some false by decide +kernel)
  | bool x => exact dIsi_of (b := true) (show kitB "bool" "bool" = some true by decide +kernel)
  | int x => exact dIsi_of (b := false) (show kitB "int" "bool" = some false by decide +kernel)
  | str x => exact dIsi_of (b := false) (show kitB "str" "bool" = some false by decide +kernel)
  | list x => exact dIsi_of (b := false) (show kitB "list" "bool" = some false by decide +kernel)
  | tuple x => exact dIsi_of (b := false) (show kitB "tuple" "bool" = some false by decide +kernel)
  | dict x => exact dIsi_of (b := false) (show kitB "dict" "bool" = some false by decide +kernel)
def is_str : PyData → Bool
  | .str _ => true
  | _ => false
theorem isi_str (d : PyData) : dIsi "str" d = .ok (.bool (is_str d)) := by
  cases d with
  | none => exact dIsi_of (b := false) (show kitB "NoneType" "str" = some false by decide +kernel)
  | bool x => exact dIsi_of (b := false) (show kitB "bool" "str" = some false by decide +kernel)
  | int x => exact dIsi_of (b := false) (show kitB "int" "str" = some false by decide +kernel)
  | str x => exact dIsi_of (b := true) (show kitB "str" "str" = some true by decide +kernel)
  | list x => exact dIsi_of (b := false) (show kitB "list" "str" = some false by decide +kernel)
  | tuple x => exact dIsi_of (b := false) (show kitB "tuple" "str" = some false by decide +kernel)
  | dict x => exact dIsi_of (b := false) (show kitB "dict" "str" = some false by decide +kernel)
def is_list : PyData → Bool
  | .list _ => true
  | _ => false
theorem isi_list (d : PyData) : dIsi "list" d = .ok (.bool (is_list d)) := by
  cases d with
  | none => exact dIsi_of (b := false) (show kitB "NoneType" "list" = some false by decide +kernel)
  | bool x => exact dIsi_of (b := false) (show kitB "bool" "list" = some false by decide +kernel)
  | int x => exact dIsi_of (b := false) (show kitB "int" "list" = some false by decide +kernel)
  | str x => exact dIsi_of (b := false) (show kitB "str" "list" = some false by decide +kernel)
  | list x => exact dIsi_of (b := true) (show kitB "list" "list" = some true by decide +kernel)
  | tuple x => exact dIsi_of (b := false) (show kitB "tuple" "list" = some false by decide +kernel)
  | dict x => exact dIsi_of (b := false) (show kitB "dict" "list" = some false by decide +kernel)
def is_tuple : PyData → Bool
  | .tuple _ => true
  | _ => false
theorem isi_tuple (d : PyData) : dIsi "tuple" d = .ok (.bool (is_tuple d)) := by
  cases d with
  | none => exact dIsi_of (b := false) (show kitB "NoneType" "tuple" = some false by decide +kernel)
  | bool x => exact dIsi_of (b := false) (show kitB "bool" "tuple" = some false by decide +kernel)
  | int x => exact dIsi_of (b := false) (show kitB "int" "tuple" = some false by decide +kernel)
  | str x => exact dIsi_of (b := false) (show kitB "str" "tuple" = some false by decide +kernel)
  | list x => exact dIsi_of (b := false) (show kitB "list" "tuple" = some false by decide +kernel)
  | tuple x => exact dIsi_of (b := true) (show kitB "tuple" "tuple" = some true by decide +kernel)
  | dict x => exact dIsi_of (b := false) (show kitB "dict" "tuple" = some false by decide +kernel)
def is_dict : PyData → Bool
  | .dict _ => true
  | _ => false
theorem isi_dict (d : PyData) : dIsi "dict" d = .ok (.bool (is_dict d)) := by
  cases d with
  | none => exact dIsi_of (b := false) (show kitB "NoneType" "dict" = some false by decide +kernel)
  | bool x => exact dIsi_of (b := false) (show kitB "bool" "dict" = some false by decide +kernel)
  | int x => exact dIsi_of (b := false) (show kitB "int" "dict" = some false by decide +kernel)
  | str x => exact dIsi_of (b := false) (show kitB "str" "dict" = some false by decide +kernel)
  | list x => exact dIsi_of (b := false) (show kitB "list" "dict" = some false by decide +kernel)
  | tuple x => exact dIsi_of (b := false) (show kitB "tuple" "dict" = some false by decide +kernel)
  | dict x => exact dIsi_of (b := true) (show kitB "dict" "dict" = some true by decide +kernel)

/-! ### dicts with int and text keys -/
def keyOf : PyData → Option Key
  | .int i => some (.inl i)
  | .str x => some (.inr x)
  | _ => none
theorem keyOf_kD (k : Key) : keyOf (kD k) = some k := by cases k <;> rfl
theorem keyOf_eq {d : PyData} {k : Key} (h : keyOf d = some k) : d = kD k := by
  cases d with
  | int i => cases h; rfl
  | str x => cases h; rfl
  | _ => cases h
def isK : Key → PyData → Bool
  | .inl i, .int j => decide (i = j)
  | .inr x, .str y => decide (x = y)
  | _, _ => false
theorem isK_kD (k j : Key) : isK k (kD j) = decide (j = k) := by
  cases k with
  | inl a =>
    cases j with
    | inl b => simp only [isK, kD, key_ll]; by_cases h : a = b <;> simp [h]; exact fun z => h z.symm
    | inr b => simp only [isK, kD, key_rl]
  | inr a =>
    cases j with
    | inl b => simp only [isK, kD, key_lr]
    | inr b => simp only [isK, kD, key_rr]; by_cases h : a = b <;> simp [h]; exact fun z => h z.symm
def dLook : List (PyData × PyData) → Key → Option PyData
  | [], _ => none
  | p :: r, k => if isK k p.1 = true then some p.2 else dLook r k
def dHas (kvs : List (PyData × PyData)) (k : Key) : Bool := kvs.any fun p => isK k p.1
def dPut (kvs : List (PyData × PyData)) (k : Key) (v : PyData) : List (PyData × PyData) :=
  if dHas kvs k = true then kvs.map fun p => if isK k p.1 = true then (p.1, v) else p else kvs ++ [(kD k, v)]
section
variable {K : PySem.W.Frag} {G : Hp}
theorem RepK.look : ∀ {kvs : List (Key × V)} {ds : List (PyData × PyData)} (k : Key), RepK K G kvs ds → (valV kvs k = none ∧ dLook ds k = none) ∨ ∃ v d, valV kvs k = some v ∧ dLook ds k = some d ∧ Rep K G v d
  | _, _, k, .nil => .inl ⟨rfl, rfl⟩
  | _, _, k, .cons (k := j) h r => by
    unfold dLook
    rw [isK_kD]
    by_cases e : j = k
    · rw [valV_pos e, if_pos (decide_eq_true e)]
      exact .inr ⟨_, _, rfl, rfl, h⟩
    · rw [valV_neg e, if_neg (by simp [e])]
      exact RepK.look k r
theorem RepK.has : ∀ {kvs : List (Key × V)} {ds : List (PyData × PyData)} (k : Key), RepK K G kvs ds → (kvs.any fun kv => decide (kv.1 = k)) = dHas ds k
  | _, _, k, .nil => rfl
  | _, _, k, .cons (k := j) h r => by
    unfold dHas
    rw [List.any_cons, List.any_cons, isK_kD]
    exact congrArg _ (RepK.has k r)
theorem RepK.len : ∀ {kvs : List (Key × V)} {ds : List (PyData × PyData)}, RepK K G kvs ds → kvs.length = ds.length
  | _, _, .nil => rfl
  | _, _, .cons _ r => by rw [List.length_cons, List.length_cons, RepK.len r]
theorem RepK.append : ∀ {vs ws : List (Key × V)} {ds es : List (PyData × PyData)}, RepK K G vs ds → RepK K G ws es → RepK K G (vs ++ ws) (ds ++ es)
  | _, _, _, _, .nil, s => s
  | _, _, _, _, .cons r t, s => .cons r (RepK.append t s)
theorem RepK.repl {v : V} {d : PyData} (k : Key) (h : Rep K G v d) : ∀ {kvs : List (Key × V)} {ds : List (PyData × PyData)}, RepK K G kvs ds → RepK K G (kvs.map fun kv => if kv.1 = k then (kv.1, v) else kv) (ds.map fun p => if isK k p.1 = true then (p.1, d) else p)
  | _, _, .nil => .nil
  | _, _, .cons (k := j) r t => by
    rw [List.map_cons, List.map_cons]
    dsimp only
    rw [isK_kD]
    by_cases e : j = k
    · rw [if_pos e, if_pos (decide_eq_true e)]
      exact .cons h (RepK.repl k h t)
    · rw [if_neg e, if_neg (by simp [e])]
      exact .cons r (RepK.repl k h t)
theorem RepK.put {v : V} {d : PyData} {kvs : List (Key × V)} {ds : List (PyData × PyData)} (k : Key) (h : Rep K G v d) (r : RepK K G kvs ds) : RepK K G (putK kvs k v) (dPut ds k d) := by
  unfold putK dPut
  rw [r.has k]
  split
  · exact RepK.repl k h r
  · exact r.append (.cons h .nil)
end
theorem putK_keys {kvs : List (Key × V)} {k : Key} {v : V} (n : (kvs.map (·.1)).Nodup) : ((putK kvs k v).map (·.1)).Nodup := by
  unfold putK
  split
  · have e : (kvs.map fun kv => if kv.1 = k then (kv.1, v) else kv).map (·.1) = kvs.map (·.1) := by
      rw [List.map_map]
      apply List.map_congr_left
      intro p _
      dsimp only [Function.comp]
      split <;> rfl
    rw [e]
    exact n
  · rename_i h
    rw [List.map_append, List.nodup_append]
    refine ⟨n, by simp, fun a ha b hb => ?_⟩
    rw [List.map_cons, List.map_nil, List.mem_singleton] at hb
    intro e
    subst e
    subst hb
    obtain ⟨p, hp, e⟩ := List.mem_map.mp ha
    exact h (List.any_eq_true.mpr ⟨p, hp, decide_eq_true e⟩)
def dGet2 (d k x : PyData) : R PyData := match d, keyOf k with
  | .dict kvs, some kk => .ok ((dLook kvs kk).getD x)
  | _, _ => .no
def dDIx (d k : PyData) : R PyData := match d, keyOf k with
  | .dict kvs, some kk => match dLook kvs kk with
    | some v => .ok v
    | none => .no
  | _, _ => .no
def eGet2 (fd fk fx : EF) (env : List (Option PyData)) : R PyData := (fd env).bind fun d => match d with
  | .dict kvs => (fk env).bind fun k => (fx env).bind fun x => dGet2 (.dict kvs) k x
  | _ => .no
def gDict : List PyData → R PyData
  | [.dict kvs] => .ok (.dict kvs)
  | _ => .no
/-- == of two dicts of ints that are the same -/
def sameInt : PyData → PyData → Bool
  | .int i, .int j => decide (i = j)
  | _, _ => false
def sameAt (b : List (PyData × PyData)) (p : PyData × PyData) : Bool := match keyOf p.1 with
  | some k => match dLook b k with
    | some v => sameInt p.2 v
    | none => false
  | none => false
def dNeD (x y : PyData) : R PyData := match x, y with
  | .dict a, .dict b => if a.length = b.length ∧ a.all (sameAt b) = true then .ok (.bool false) else .no
  | _, _ => .no
section
variable {X : Cx} {ec : Nat → Addr} {W : WX} {e e2 e3 o : Expr} {fd fk fx f : EF} {fs : List EF} {p q pos apos cpos : Pos}
theorem kd_kv {K : PySem.W.Frag} {G : Hp} {v : V} {d : PyData} {k : Key} (r : Rep K G v d) (h : keyOf d = some k) : v = kV k := by
  cases r with
  | int i => cases h; rfl
  | str x => cases h; rfl
  | _ => cases h
theorem se_get2 (hu : X.A.units + 1 < cLine) (ho : PE X o (tD X.K ec W fd)) (he : PE X e (tD X.K ec W fk)) (hf : PE X e2 (tD X.K ec W fx)) (m : M2 X o "get" apos e e2 cpos := by exact ⟨rfl, rfl, rfl, rfl⟩) :
    PE X (.Call (.Attribute o "get" apos) [e, e2] [] cpos) (tD X.K ec W (eGet2 fd fk fx)) :=
  PE_imp (pe_dget2 hu ho he hf m) fun σ H Q ⟨G, env, s, E, p⟩ => ⟨G, env, s, E, Post.bind p fun v d G1 H1 _ e1 r1 p1 => by
    cases r1 with
    | @dct a kvs ds h n r =>
      refine ⟨a, rfl, .inl ⟨kvs, .inl (e1.i _ _ h)⟩, ⟨G1, env, e1.i, E.mono e1.g, Post.bind p1 fun vk dk G2 H2 _ e2 r2 p2 => ⟨G2, env, e2.i, E.mono (e1.g.trans e2.g), Post.bind p2 fun vx dx G3 H3 _ e3 r3 p3 => ?_⟩⟩⟩
      unfold dGet2 at p3
      split at p3
      · rename_i kk hd hk
        cases hd
        have ev := kd_kv (r2.mono e3.g) hk
        subst ev
        have ha : H3 a = some (.dK kvs) := e3.i _ _ (e3.g _ _ (e2.g _ _ h))
        refine ⟨valV kvs kk, DGet.k ha, ?_⟩
        rcases (r.mono (e2.g.trans e3.g)).look kk with ⟨h1, h2⟩ | ⟨v', d', h1, h2, h3⟩
        · rw [h1]; rw [h2] at p3; exact p3 _ G3 H3 (Ext.refl e3.i) r3
        · rw [h1]; rw [h2] at p3; exact p3 _ G3 H3 (Ext.refl e3.i) h3
      · exact p3.elim
    | _ => exact p1.elim⟩
theorem se_dat (hu : X.A.units + 1 < cLine) (ho : PE X o (tD X.K ec W fd)) (he : PE X e (tD X.K ec W fk)) (hs : NoSl e := by exact fun _ _ => rfl) : PE X (.Subscript o e pos) (tD X.K ec W (eBin dDIx fd fk)) :=
  PE_imp (pe_dget hu ho he hs) fun σ H Q ⟨G, env, s, E, p⟩ => ⟨G, env, s, E, Post.bind p fun v d G1 H1 _ e1 r1 p1 => ⟨G1, env, e1.i, E.mono e1.g, Post.bind p1 fun vk dk G2 H2 _ e2 r2 p2 => by
    cases r1 with
    | @dct a kvs ds h n r =>
      cases hk : keyOf dk with
      | none => unfold dDIx at p2; rw [hk] at p2; exact p2.elim
      | some kk =>
        have ev := kd_kv r2 hk
        subst ev
        have ha : H2 a = some (.dK kvs) := e2.i _ _ (e2.g _ _ h)
        unfold dDIx at p2
        rw [hk] at p2
        dsimp only at p2
        rcases (r.mono e2.g).look kk with ⟨h1, h2⟩ | ⟨v', d', h1, h2, h3⟩
        · rw [h2] at p2; exact p2.elim
        · rw [h2] at p2
          refine ⟨a, v', rfl, ?_, p2 _ G2 H2 (Ext.refl e2.i) h3⟩
          rw [← h1]
          exact DGet.k ha
    | _ => exact p2.elim⟩⟩
def rDictC : List V → Hp → VK → Prop := fun xs H Q => ∃ a kvs, xs = [.ref a] ∧ Rd H a (.dK kvs) ∧ ∀ p, H p = none → Q (.ref p) (upd H p (.dK kvs))
theorem call_dictC : CallR X (.type "dict") rDictC := by
  intro pins s σ H xs us Q I r h
  obtain ⟨a, kvs, rfl, ha, q⟩ := h
  obtain ⟨u, rfl, ru⟩ := vals1 r
  cases ru
  exact d_copyOf I ha fun p s' n I' => ⟨.ref p, _, I', rfl, q p n⟩
/-- dict(d): a copy, new -/
theorem sn_dict (hg : Gl X "dict") (hm : X.mg "dict" = none) (ha : PA X [e] (tDA X.K ec W fs)) (he : starEach [e] X.env = (false, eval e X.env) :: starEach [] X.env := by rfl) : PE X (.Call (.Name "dict" p) [e] [] pos) (tDN X.K ec W (eCall gDict fs)) :=
  PE_imp (pe_callTy call_dictC hg hm (by decide +kernel) ha (he := he) (hpl := rfl)) fun σ H Q ⟨G, env, s, E, p⟩ => ⟨G, env, s, E, PostN.bindL p fun vs ds G1 H1 q e1 r1 p1 => by
    unfold gDict at p1
    split at p1
    · cases r1 with
      | cons a b =>
        cases b
        cases a with
        | @dct a kvs ds h n r => exact ⟨a, kvs, rfl, .inl (e1.i _ _ h), fun l nl => p1 l G1 _ (Ext.heap e1.i (same_new nl)) nl (e1.i.free nl) ⟨kvs, upd_same, n, r⟩⟩
    · exact p1.elim⟩
theorem int_of_same {K : PySem.W.Frag} {G : Hp} {v w : V} {a b : PyData} (r1 : Rep K G v a) (r2 : Rep K G w b) (h : sameInt a b = true) : v = w ∧ flatB v = true := by
  cases r1 with
  | int i =>
    cases r2 with
    | int j =>
      have e : i = j := of_decide_eq_true h
      subst e
      exact ⟨rfl, rfl⟩
    | _ => cases h
  | _ => cases h
theorem same_all {K : PySem.W.Frag} {G : Hp} {lvs : List (Key × V)} {es : List (PyData × PyData)} (r2 : RepK K G lvs es) : ∀ {kvs : List (Key × V)} {ds : List (PyData × PyData)}, RepK K G kvs ds → ds.all (sameAt es) = true → ∀ p ∈ kvs, valV lvs p.1 = some p.2 ∧ flatB p.2 = true
  | _, _, .nil, _ => fun p hp => by cases hp
  | _, _, .cons (k := k) h r, ha => fun p hp => by
    rw [List.all_cons, Bool.and_eq_true] at ha
    rcases List.mem_cons.mp hp with rfl | hp
    · have ha1 := ha.1
      unfold sameAt at ha1
      rw [keyOf_kD] at ha1
      dsimp only at ha1
      rcases r2.look k with ⟨w1, w2⟩ | ⟨v', d', w1, w2, w3⟩
      · rw [w2] at ha1; cases ha1
      · rw [w2] at ha1
        obtain ⟨e1, e2⟩ := int_of_same h w3 ha1
        subst e1
        exact ⟨w1, e2⟩
    · exact same_all r2 r ha.2 p hp
theorem od_neD {K : PySem.W.Frag} : OpD K rNeDA dNeD := by
  intro x y dx dy d G H Q i rx ry h q
  cases rx with
  | @dct a kvs ds h1 n1 r1 =>
    cases ry with
    | @dct b lvs es h2 n2 r2 =>
      unfold dNeD at h
      dsimp only at h
      split at h
      · rename_i hc
        cases h
        exact ⟨a, b, kvs, lvs, rfl, rfl, i _ _ h1, i _ _ h2, by rw [r1.len, r2.len]; exact hc.1, same_all r2 r1 hc.2, q _ G H (Ext.refl i) (.bl _)⟩
      · cases h
    | _ => cases h
  | _ => cases h
theorem nx_neD : NoEx dNeD := by
  intro x y c h
  unfold dNeD at h
  split at h
  · split at h <;> cases h
  · cases h
theorem se_neD (hu : X.A.units < cLine) {a b : Expr} {fa fb : EF} (ha : PE X a (tD X.K ec W fa)) (hb : PE X b (tD X.K ec W fb)) : PE X (.Compare a [.NotEq] [b] pos) (tD X.K ec W (eBin dNeD fa fb)) := se_cmp (op_ne_dictA hu) od_neD nx_neD ha hb (nomark _)
theorem st_neD (hu : X.A.units < cLine) {a b : Expr} {fa fb : EF} (ha : PE X a (tD X.K ec W fa)) (hb : PE X b (tD X.K ec W fb)) : PT X (.Compare a [.NotEq] [b] pos) (tDT X.K ec W (bVal (eBin dNeD fa fb))) := st_cmp (op_ne_dictA hu) od_neD nx_neD ha hb (nomark _)
end
end PL
/-! PL, part h: slices, displays of dicts, stores into dicts, constants of the module. -/
namespace PL
open PySem PySem.Spec PyProof.Rows L2

/-! ### slices -/
def cutD (xs : List PyData) (lo hi : Option Int) : List PyData := (xs.drop (HT.sIx xs.length 0 lo)).take (HT.sIx xs.length xs.length hi - HT.sIx xs.length 0 lo)
theorem RepA.cut {K : PySem.W.Frag} {G : Hp} {vs : List V} {ds : List PyData} (r : RepA K G vs ds) (lo hi : Option Int) : RepA K G (cutV vs lo hi) (cutD ds lo hi) := by
  unfold cutV cutD
  rw [r.length]
  exact (r.drop _).take _
def dSl (d : PyData) (lo hi : Option Int) : R PyData := match d with
  | .list xs => .ok (.list (cutD xs lo hi))
  | .tuple xs => .ok (.tuple (cutD xs lo hi))
  | _ => .no
def eOpt : Option EF → List (Option PyData) → R (Option Int)
  | none, _ => .ok none
  | some f, env => (f env).bind fun d => match d with
    | .int i => .ok (some i)
    | _ => .no
def eSl (f : EF) (lo hi : Option EF) (env : List (Option PyData)) : R PyData := (f env).bind fun d => (eOpt lo env).bind fun l => (eOpt hi env).bind fun h => dSl d l h
def PostO (K : PySem.W.Frag) (ec : Nat → Addr) (W : WX) (σ : L2.St) (H : Hp) (Q : Option Int → Hp → Prop) : R (Option Int) → Prop
  | .ok o => ∀ H', Same H H' → Q o H'
  | .ex c => ∀ H', Same H H' → W (.ref (ec c)) none σ H'
  | .no => False
def tDO (K : PySem.W.Frag) (ec : Nat → Addr) (W : WX) (f : Option EF) : TO := fun σ H Q => ∃ G env, Same G H ∧ EnvR K G σ env ∧ PostO K ec W σ H Q (eOpt f env)
theorem PO_imp {X : Cx} {e : Option Expr} {t t' : TO} (h : PO X e t) (k : ∀ σ H Q, t' σ H Q → t σ H Q) : PO X e t' := ⟨fun pins s σ H Q I q => h.run pins s σ H Q I (k _ _ _ q)⟩
theorem PostO.bind {K : PySem.W.Frag} {ec : Nat → Addr} {W : WX} {σ : L2.St} {G H : Hp} {Q : VK} {Q' : Option Int → Hp → Prop} {r : R (Option Int)} {k : Option Int → R PyData} (h : Post K ec W σ G H Q (r.bind k)) (i : Same G H) (hk : ∀ b H', r = .ok b → Same H H' → Post K ec W σ G H' Q (k b) → Q' b H') : PostO K ec W σ H Q' r := by
  cases r with
  | ok d => exact fun H' e => hk d H' rfl e (Post.mono (Ext.heap i e) h)
  | ex c => exact h
  | no => exact h
def rSlP (K : PySem.W.Frag) : V → Option Int → Option Int → Hp → VK → Prop := fun x lo hi H Q => rSlL K x lo hi H Q ∨ rSlA K x lo hi H Q
section
variable {X : Cx} {ec : Nat → Addr} {W : WX} {e e2 : Expr} {f fk : EF} {lo hi : Option Expr} {fl fh : Option EF} {pos p2 : Pos}
theorem so_none : PO X none (tDO X.K ec W none) := PO_imp po_none fun σ H Q ⟨G, env, s, E, p⟩ => p H (Same.refl _)
theorem so_some (h : PE X e (tD X.K ec W f)) : PO X (some e) (tDO X.K ec W (some f)) := PO_imp (po_some h) fun σ H Q ⟨G, env, s, E, p⟩ => by
  refine ⟨G, env, s, E, ?_⟩
  unfold eOpt at p
  dsimp only at p
  cases q : f env with
  | ok d =>
    rw [q] at p
    intro v G' H' e r
    cases r with
    | int i => exact ⟨i, rfl, p H' e.h⟩
    | _ => exact p.elim
  | ex c => rw [q] at p; exact p
  | no => rw [q] at p; exact p
theorem se_sl (he : PE X e (tD X.K ec W f)) (hl : PO X lo (tDO X.K ec W fl)) (hh : PO X hi (tDO X.K ec W fh)) : PE X (.Subscript e (.Slice lo hi none p2) pos) (tD X.K ec W (eSl f fl fh)) :=
  PE_imp (pe_slice (sl_list.or sl_tupA) he hl hh) fun σ H Q ⟨G, env, s, E, p⟩ => ⟨G, env, s, E, Post.bind p fun v d G1 H1 _ e1 r1 p1 =>
    ⟨G1, env, e1.i, E.mono e1.g, PostO.bind p1 e1.i fun l H2 _ s2 p2 => ⟨G1, env, e1.i.trans s2, E.mono e1.g, PostO.bind p2 (e1.i.trans s2) fun h H3 _ s3 p3 => by
      have i3 : Same G1 H3 := (e1.i.trans s2).trans s3
      cases r1 with
      | @lst a xs ds ha r => exact .inl ⟨a, xs, rfl, (ls_same i3 ha).sq, fun p n => p3 _ _ _ (Ext.new i3 n) (ext_list i3 n (r.cut l h))⟩
      | @tup a xs ds ha r =>
        refine .inr ⟨a, xs, rfl, sqT_same i3 ha, fun hw => ?_, fun _ p n => p3 _ _ _ (Ext.new i3 n) (ext_tup i3 n (r.cut l h))⟩
        have e : cutD ds l h = ds := by
          unfold cutD
          rw [← r.length, hw.1, hw.2, List.drop_zero, Nat.sub_zero, r.length, List.take_length]
        refine p3 _ G1 H3 (Ext.refl i3) ?_
        rw [e]
        exact .tup ha r
      | _ => exact p3.elim⟩⟩⟩
end

/-! ### displays of dicts -/
def dispT (K : PySem.W.Frag) (ec : Nat → Addr) (W : WX) (kf : List (Str × EF)) : List (TE × TE) := kf.map fun p => (tC (.str p.1), tD K ec W p.2)
def zipK : List (Str × EF) → List PyData → List (PyData × PyData)
  | (k, _) :: r, d :: ds => (.str k, d) :: zipK r ds
  | _, _ => []
def eDisp (kf : List (Str × EF)) (env : List (Option PyData)) : R PyData := (aAll (kf.map (·.2)) env).bind fun ds => .ok (.dict (zipK kf ds))
def PostKV (K : PySem.W.Frag) (ec : Nat → Addr) (W : WX) (σ : L2.St) (G H : Hp) (kf : List (Str × EF)) (Q : List (Key × V) → Hp → Prop) : R (List PyData) → Prop
  | .ok ds => ∀ kvs G' H', Ext G H G' H' → RepK K G' kvs (zipK kf ds) → kvs.map (·.1) = kf.map (fun p => Sum.inr p.1) → Q kvs H'
  | .ex c => ∀ H', Same H H' → W (.ref (ec c)) none σ H'
  | .no => False
theorem pairs_D {K : PySem.W.Frag} {ec : Nat → Addr} {W : WX} {σ : L2.St} {env : List (Option PyData)} : ∀ (kf : List (Str × EF)) (G H : Hp) (Q : List (V × V) → Hp → Prop), Same G H → EnvR K G σ env →
    PostKV K ec W σ G H kf (fun kvs H' => Q (kvs.map fun kv => (kV kv.1, kv.2)) H') (aAll (kf.map (·.2)) env) → tPairs (dispT K ec W kf) σ H Q
  | [], G, H, Q, i, E, p => p [] G H (Ext.refl i) .nil rfl
  | (k, f) :: r, G, H, Q, i, E, p => by
    show tPairs ((tC (.str k), tD K ec W f) :: dispT K ec W r) σ H Q
    refine ⟨G, env, i, E, ?_⟩
    have p : PostKV K ec W σ G H ((k, f) :: r) (fun kvs H' => Q (kvs.map fun kv => (kV kv.1, kv.2)) H') ((f env).bind fun d => (aAll (r.map (·.2)) env).bind fun ds => .ok (d :: ds)) := p
    cases q : f env with
    | ex c => rw [q] at p; exact p
    | no => rw [q] at p; exact p
    | ok d =>
      rw [q, R.bind_ok] at p
      intro v G1 H1 e1 r1
      refine pairs_D r G1 H1 _ e1.i (E.mono e1.g) ?_
      cases q2 : aAll (r.map (·.2)) env with
      | ex c => rw [q2] at p; exact fun H' s => p H' (e1.h.trans s)
      | no => rw [q2] at p; exact p
      | ok ds =>
        rw [q2] at p
        intro kvs G2 H2 e2 r2 hk
        exact p ((Sum.inr k, v) :: kvs) G2 H2 (e1.trans e2) (.cons (k := Sum.inr k) (r1.mono e2.g) r2) (by rw [List.map_cons, List.map_cons, hk])
theorem putK_last {acc : List (Key × V)} {k : Key} {v : V} (h : k ∉ acc.map (·.1)) : putK acc k v = acc ++ [(k, v)] := by
  unfold putK
  rw [if_neg]
  intro q
  obtain ⟨p, hp, e⟩ := List.any_eq_true.mp q
  exact h (List.mem_map.mpr ⟨p, hp, of_decide_eq_true e⟩)
theorem mergeK_nodup : ∀ (kvs acc : List (Key × V)), ((acc ++ kvs).map (·.1)).Nodup → mergeK acc kvs = acc ++ kvs
  | [], acc, _ => by rw [List.append_nil]; rfl
  | (k, v) :: r, acc, h => by
    have hk : k ∉ acc.map (·.1) := fun hm => by
      rw [List.map_append, List.nodup_append] at h
      exact h.2.2 k hm k (by simp) rfl
    show mergeK (putK acc k v) r = _
    rw [putK_last hk, mergeK_nodup r (acc ++ [(k, v)]) (by rw [List.append_assoc]; exact h), List.append_assoc]
    rfl
section
variable {X : Cx} {ec : Nat → Addr} {W : WX} {G0 H0 : Hp} {e v : Expr} {f fe fk : EF} {ks : List (Option Expr)} {vs : List Expr} {kf : List (Str × EF)} {pos pos' p : Pos} {k : Str} {j : Nat}
theorem sp_nil : PPs X pos [] [] (dispT X.K ec W []) := pps_nil
theorem sp_cons (hv : PE X v (tD X.K ec W f)) (hr : PPs X pos ks vs (dispT X.K ec W kf)) : PPs X pos (some (.Constant (.str k) j p) :: ks) (v :: vs) (dispT X.K ec W ((k, f) :: kf)) := pps_cons pe_str hv hr
theorem sn_disp (h : PPs X pos ks vs (dispT X.K ec W kf)) (hn : (kf.map (·.1)).Nodup) (hl15 : kf.length ≤ 15 := by exact Nat.le_of_ble_eq_true rfl) (hall : ks.all (·.isSome) = true := by rfl) (hl : ks.length = vs.length := by rfl) (h0 : ks ≠ [] := by intro z; cases z) (h15 : ks.length ≤ 15 := by decide) :
    PE X (.Dict ks vs pos) (tDN X.K ec W (eDisp kf)) :=
  PE_imp (pe_disp h hall hl h0 h15) fun σ H Q ⟨G, env, s, E, p⟩ => fun l nl => by
    have gl : G l = none := s.free nl
    have i1 : Same G (upd H l (.dK [])) := s.trans (same_new nl)
    refine pairs_D kf G _ _ i1 E ?_
    unfold eDisp at p
    cases q : aAll (kf.map (·.2)) env with
    | ex c => rw [q] at p; exact fun H' s' => p H' ((same_new nl).trans s')
    | no => rw [q] at p; exact p
    | ok ds =>
      rw [q] at p
      intro kvs G' H' e1 r1 hk
      have hnd : (kvs.map (·.1)).Nodup := by
        rw [hk]
        have : kf.map (fun p => (Sum.inr p.1 : Key)) = (kf.map (·.1)).map Sum.inr := by rw [List.map_map]; rfl
        rw [this, List.Nodup, List.pairwise_map]
        exact List.Pairwise.imp (fun hne z => hne (Sum.inr.inj z)) hn
      have hlen : kvs.length ≤ 15 := by
        have := congrArg List.length hk
        rw [List.length_map, List.length_map] at this
        omega
      have hl' : H' l = some (.dK []) := e1.h _ _ upd_same
      refine ⟨hl', kvs, rfl, hlen, ?_⟩
      rw [mergeK_nodup kvs [] (by rw [List.nil_append]; exact hnd), List.nil_append]
      have g' : G' l = none := e1.clean gl upd_same
      refine p l G' _ ⟨e1.g, fun b o q => ?_, fun b o q => ?_, fun b h1 h2 => ?_⟩ nl g' ⟨kvs, upd_same, hnd, r1⟩
      · have hb : b ≠ l := ne_of_none q nl
        rw [upd_ne hb]
        exact e1.h _ _ (by rw [upd_ne hb]; exact q)
      · rw [upd_ne (fun z => by rw [z, g'] at q; cases q)]; exact e1.i b o q
      · have := e1.f b h1 h2
        by_cases hb : b = l
        · rw [hb]; exact nl
        · rw [upd_ne hb] at this; exact this
/-- d[k] = v of an owned dict -/
def sDSet (mv mk : Md) (i : Nat) (fv fk : EF) (env : Ev) : Out := match env[i]? with
  | some (.ow (.dict kvs)) => (evM mv fv env).out fun d => (evM mk fk env).out fun k => match keyOf k with
    | some kk => if kvs.length < szl then .nx (env.set i (.ow (.dict (dPut kvs kk d)))) else .no
    | none => .no
  | _ => .no
theorem sn_dnew : PE X (.Dict [] [] pos) (tDN X.K ec W (eC (.dict []))) :=
  PE_imp pe_dnewK fun σ H Q ⟨G, env, s, E, p⟩ => fun l nl => p l G _ (Ext.heap s (same_new nl)) nl (s.free nl) ⟨[], upd_same, List.nodup_nil, .nil⟩
theorem ss_dset (mv mk : Md) {i : Nat} {x : Str} (hu : X.A.units + 1 < cLine) (he : PE X e (tD X.K ec W fe)) (hk : PE X v (tD X.K ec W fk)) (hi : X.N[i]? = some x := by rfl) (hv : Vis X.env.scope x := by first | exact Or.inl rfl | exact Or.inr (Or.inl rfl) | exact Or.inr (Or.inr rfl)) (hd : (x == ("__debug__" : Str)) = false := by decide) (hcd : (x == ("__classdict__" : Str)) = false := by decide)
    (hs : swapsWith e (some (.Subscript (.Name x p) v pos')) pos.line X.env = pure false := by rfl) :
    PS X (.Assign [.Subscript (.Name x p) v pos'] e pos) (tDS X.K ec W G0 H0 (sDSet mv mk i fe fk)) := by
  refine PS_imp (ps_dput hu (pe_var hi hv hd hcd) hk he hs) fun D σ H ⟨G, env, S, p⟩ => ?_
  unfold sDSet at p
  split at p
  · rename_i ds q
    refine tD_M (m := mv) S (PostE.out p fun v d G1 H1 _ g1 S1 r1 p1 => ?_)
    obtain ⟨l, a1, a2, a3, vs, a4, a5, a6⟩ := S1.ow i _ q
    refine ⟨_, a1, tD_M (m := mk) S1 (PostE.out p1 fun kv kd G2 H2 _ g2 S2 r2 p2 => ?_)⟩
    obtain ⟨l', b1, b2, b3, vs', b4, b5, b6⟩ := S2.ow i _ q
    rw [a1] at b1
    cases b1
    cases hkk : keyOf kd with
    | none => rw [hkk] at p2; exact p2.elim
    | some kk =>
      rw [hkk] at p2
      dsimp only at p2
      have ev := kd_kv r2 hkk
      subst ev
      split at p2
      · rename_i hz
        refine ⟨l, _, rfl, DPut.k (k := kk) b4 (Nat.lt_of_lt_of_le (by rw [b6.len]; exact hz) (szl_line (Nat.le_refl _))), ?_⟩
        exact p2 σ G2 _ (Same.refl _) (S2.mut q a1 ⟨_, upd_same, putK_keys b5, b6.put kk (r1.mono g2)⟩)
      · exact p2.elim
  · exact p.elim
end

/-! ### constants of the module -/
/-- the module's name x holds the datum d, whatever the heap -/
def GlobD (K : PySem.W.Frag) (mg : Str → Option Value) (x : Str) (d : PyData) : Prop := ∃ v u, mg x = some u ∧ RelV v u ∧ ∀ G, Rep K G v d
theorem globD_int {K : PySem.W.Frag} {mg : Str → Option Value} {x : Str} {i : Int} {t : Tok} (h : mg x = some (.int i t)) : GlobD K mg x (.int i) := ⟨.int i, _, h, ⟨t, rfl⟩, fun _ => .int i⟩
theorem globD_str {K : PySem.W.Frag} {mg : Str → Option Value} {x : Str} {z : Str} {t : Tok} (h : mg x = some (.str z t)) : GlobD K mg x (.str z) := ⟨.str z, _, h, ⟨t, rfl⟩, fun _ => .str z⟩
theorem se_glob {X : Cx} {ec : Nat → Addr} {W : WX} {x : Str} {pos : Pos} {d : PyData} (g : GlobD X.K X.mg x d) (hg : Gl X x) (hd : (x == ("__debug__" : Str)) = false := by decide) : PE X (.Name x pos) (tD X.K ec W (eC d)) := by
  obtain ⟨v, u, hm, r, h⟩ := g
  exact se_c (pe_glob hg hm r hd) h
end PL
/-! PL, part i: two names at once, contexts of defs, levels. -/
namespace PL
open PySem PySem.Spec PyProof.Rows L2

def evML : Md → List EF → Ev → R (List PyData)
  | .P, fs, env => aAll fs (env.map Sl.pur)
  | .A, fs, env => (aAll fs (env.map Sl.full)).bind fun ds => if ds.all atomic = true then .ok ds else .no
def PostEL (K : PySem.W.Frag) (ec : Nat → Addr) (W : WX) (G0 H0 G : Hp) (σ : L2.St) (env : Ev) (Q : List V → Hp → Prop) : R (List PyData) → Prop
  | .ok ds => ∀ vs G' H', Same G G' → StR K G0 H0 G' H' σ env → RepA K G' vs ds → Q vs H'
  | .ex c => ∀ H', Same H0 H' → W (.ref (ec c)) none σ H'
  | .no => False
theorem atomic_repA {K : PySem.W.Frag} {G G' : Hp} : ∀ {vs : List V} {ds : List PyData}, RepA K G vs ds → ds.all atomic = true → RepA K G' vs ds
  | _, _, .nil, _ => .nil
  | _, _, .cons h r, a => by
    rw [List.all_cons, Bool.and_eq_true] at a
    exact .cons (atomic_rep h a.1) (atomic_repA r a.2)
section
variable {K : PySem.W.Frag} {ec : Nat → Addr} {W : WX} {G0 H0 G H : Hp} {σ : L2.St} {env : Ev} {D : Ends} {Q : List V → Hp → Prop}
theorem tDA_M {m : Md} {fs : List EF} (S : StR K G0 H0 G H σ env) (h : PostEL K ec W G0 H0 G σ env Q (evML m fs env)) : tDA K ec W fs σ H Q := by
  cases m with
  | P =>
    refine ⟨G, _, S.x.i, S.envP, ?_⟩
    have h : PostEL K ec W G0 H0 G σ env Q (aAll fs (env.map Sl.pur)) := h
    cases q : aAll fs (env.map Sl.pur) with
    | ok d => rw [q] at h; exact fun v G' H' e r => h v G' H' e.g (S.grow e) r
    | ex c => rw [q] at h; exact fun H' s => h H' (S.x.h.trans s)
    | no => rw [q] at h; exact h
  | A =>
    refine ⟨_, _, S.viewH, S.envF, ?_⟩
    have h : PostEL K ec W G0 H0 G σ env Q ((aAll fs (env.map Sl.full)).bind fun ds => if ds.all atomic = true then .ok ds else .no) := h
    cases q : aAll fs (env.map Sl.full) with
    | ok d =>
      rw [q] at h
      rw [R.bind_ok] at h
      split at h
      · rename_i ha
        exact fun v G' H' e r => h v G H' (Same.refl _) (S.grow (Ext.heap S.x.i e.h)) (atomic_repA r ha)
      · exact h.elim
    | ex c => rw [q] at h; exact fun H' s => h H' (S.x.h.trans s)
    | no => rw [q] at h; exact h
theorem PostEL.out {r : R (List PyData)} {k : List PyData → Out} (h : PostS K ec W G0 H0 G D (r.outL k)) (hk : ∀ vs ds G' H', r = .ok ds → Same G G' → StR K G0 H0 G' H' σ env → RepA K G' vs ds → PostS K ec W G0 H0 G' D (k ds) → Q vs H') : PostEL K ec W G0 H0 G σ env Q r := by
  cases r with
  | ok d => exact fun v G' H' g S r => hk v d G' H' rfl g S r (PostS.mono g h)
  | ex c => exact fun H' s => h σ H' s
  | no => exact h
end
def sPar (m : Md) (i j : Nat) (fs : List EF) (env : Ev) : Out := (evML m fs env).outL fun ds => match ds with
  | [a, b] => .nx ((env.set i (.pu a)).set j (.pu b))
  | _ => .no
section
variable {X : Cx} {ec : Nat → Addr} {W : WX} {G0 H0 : Hp} {a b : Expr} {fs : List EF} {pos px py pt : Pos} {i j : Nat} {x y : Str}
theorem ss_par (m : Md) {kt k2 pt2} (hc : X.calm = true) (hN : X.N.Nodup) (ha : PA X [a, b] (tDA X.K ec W fs)) (hi : X.N[i]? = some x := by rfl) (hj : X.N[j]? = some y := by rfl) (hij : i ≠ j := by decide)
    (hx : X.env.scope.names.lookup x = some .local := by rfl) (hy : X.env.scope.names.lookup y = some .local := by rfl)
    (hw : swappedStores [.Tuple [.Name x px, .Name y py] kt pt] (.Tuple [a, b] k2 pt2) X.env = pure (some [x, y]) := by rfl)
    (hs : swapsWithSole [.Tuple [.Name x px, .Name y py] kt pt] (.Tuple [a, b] k2 pt2) pos.line X.env = pure false := by rfl) :
    PS X (.Assign [.Tuple [.Name x px, .Name y py] kt pt] (.Tuple [a, b] k2 pt2) pos) (tDS X.K ec W G0 H0 (sPar m i j fs)) :=
  PS_imp (ps_par hc hN hi hj hij hx hy ha hw hs) fun D σ H ⟨G, env, S, p⟩ => tDA_M (m := m) S (PostEL.out p fun vs ds G' H' _ g S' r p' => by
    split at p'
    · cases r with
      | cons r1 r2 =>
        cases r2 with
        | cons r2 r3 =>
          cases r3
          exact ⟨_, _, rfl, p' _ G' H' (Same.refl _) ((S'.setP r1).setP r2)⟩
    · exact p'.elim)
end

/-! ### the context of a def -/
section
variable {P : Program} {w : World} {K : PySem.W.Frag} {mg : Str → Option Value} {base : Heap} {N : List Str} {qual : Str} {sc : Scope} {f : Addr} {cdv : Value} {A : Around} {outer : List Env} {s : Shared} {H : Hp} {E : XK}
theorem tk_cx : L2N.Takes (cxOf (L2N.CX P w) P w K mg base N qual sc f cdv A outer s H E) (fun cls d _ H => E cls d H) := L2N.takes_of rfl rfl rfl rfl
theorem hp_cx : PassesOwn (model P w) (A.deeper (envOfC qual sc s.heap.objs.size f cdv)) (envOfC qual sc s.heap.objs.size f cdv) (cxOf (L2N.CX P w) P w K mg base N qual sc f cdv A outer s H E).xe := passes_of (X := cxOf (L2N.CX P w) P w K mg base N qual sc f cdv A outer s H E) rfl
end
theorem units65 {k : Nat} {A : Around} (r : Room k A) : A.units + 65 < cLine := by have := r.un; omega
/-- a def that is never worth anything -/
theorem fn_no {P : Program} {w : World} {K : PySem.W.Frag} {mg : Str → Option Value} {base : Heap} {ec : Nat → Addr} {k n : Nat} {f : Addr} {fd : FuncData} {ps : List Str} (hn : ps.length = n) {g : List PyData → R PyData} (hg : ∀ ds, g ds = .no) : FnOk P w K mg base (L2N.CX P w) k f fd ps (spP K ec n g) :=
  ⟨fun vs H Q E h => by rw [h.1, hn], fun A outer s H args us vs Q E hr e0 hb r h => by
    obtain ⟨_, G, ds, _, _, p⟩ := h
    rw [hg] at p
    exact p.elim⟩
theorem cal_of {P : Program} {w : World} {K : PySem.W.Frag} {mg : Str → Option Value} {base : Heap} {ec : Nat → Addr} {x qual : Str} {st : Stmt} {n k : Nat} {g : List PyData → R PyData} {f : Addr} {fd : FuncData} {ps : List Str}
    (F : Fun K x qual st f fd) (hm : mg x = some (.ref f)) (hb : Binds K fd ps []) (ok : FnOk P w K mg base (L2N.CX P w) k f fd ps (spP K ec n g)) : Cal P w K mg base ec x n k g := ⟨f, fd, ps, ok, hm, F.kp, hb⟩
theorem Cal.mono {P : Program} {w : World} {K : PySem.W.Frag} {mg : Str → Option Value} {base : Heap} {ec : Nat → Addr} {x : Str} {n j k : Nat} {g : List PyData → R PyData} (c : Cal P w K mg base ec x n j g) (h : j ≤ k) : Cal P w K mg base ec x n k g := by
  obtain ⟨f, fd, ps, F, hm, hk, hb⟩ := c.ex
  exact ⟨f, fd, ps, F.mono h, hm, hk, hb⟩
end PL
/-! PL, part j: the end of a law. -/
namespace PL
open PySem PySem.Spec PyProof.Rows L2
theorem walk_D {l : PySem.W.OpenLaw} {n k : Nat} {q : Program} {loose : List Str} {XP : (Str → Option Value) → Heap → Prop} {YP : World → Heap → Prop} {d : DefRec} {K : Params → PySem.W.Frag} {x : Str} {g : List PyData → R PyData}
    (hn : l.most = some n) (hn2 : n ≤ sizeLine) (hdf : d.params.defaults = []) (hr : Room k callerA) (hY : ∀ (w : World) (h : Heap), YP w h → (K w.params).In h)
    (F : ∀ (w : World) (mg : Str → Option Value) (fa : Addr) (h : Heap), (K w.params).In h → h.Ns mainGlobals mg → mg d.name = some (.ref fa) →
      ∃ (ec : Nat → Addr) (fd : FuncData), (∀ (s : Shared) (u : Value), BindsTo s fd ⟨[u], []⟩ [(x, u)]) ∧ ∀ base : Heap, (K w.params).In base → base.Ns mainGlobals mg → FnOk l.prog w (K w.params) mg base (L2N.CX l.prog w) k fa fd [x] (spP (K w.params) ec 1 g))
    (hg : ∀ ns : List Int, ns.length ≤ n → g [.list (ns.map PyData.int)] = .ok (.bool true)) : PySem.W.WalkO q loose XP YP l.row.toRowW d [] (fun f vs => PySem.call f vs) := by
  refine Att.attach_call hn hdf fun w s₀ s₁ mg mb fa o pm cd doc a vs ns G Y ho hd hcd hmg hobj hints hlen hgen => ?_
  have KX := hY w _ Y
  obtain ⟨ec, fd, hb, hF⟩ := F w mg fa _ KX G.T.g hmg
  refine law_call KX G.T.g G.T.b G.T.builtins G.T.nolimit hgen hobj hints (Nat.le_trans hlen hn2) hr hF hb (fun H hO hS => ⟨rfl, H, [.list (ns.map PyData.int)], Same.refl _, .cons (.lst ?_ (repA_ints ns)) .nil, ?_⟩) fun H e s' h => ?_
  · rcases hS with hS | ⟨o', its, m, h1, h2, h3, h4, h5, h6⟩
    · exact .inl hS
    · have e := KX a o' h1
      rw [hobj] at e
      cases e
      injection h4 with h4 _
      subst h4
      rw [List.size_toArray] at h5
      exact .inr ⟨vs, _, h1, h5, by simpa using h6⟩
  · rw [hg ns hlen]
    intro v G' H' _ r
    cases r
    rfl
  · obtain ⟨_, _, _, _, _, _, _, _, _, _, _, _, z⟩ := h
    exact z.elim
end PL
/-! PL, part k: how the reckonings come out (rows for simp). -/
namespace PL
open PySem PySem.Spec PyProof.Rows L2

/-! ### texts -/
theorem strOk_of (s : String) : PyData.strOk (Str.ofString s) = true := by
  rw [Str.ofString_eq_toList]
  unfold PyData.strOk
  rw [Array.all_eq_true]
  intro i hi
  simp only [List.getElem_toArray, List.getElem_map, decide_eq_true_eq]
  have h := (s.toList[i]'(by simpa using hi)).valid
  unfold Nat.isValidChar UInt32.isValidChar at h
  show (s.toList[i]'(by simpa using hi)).toNat < 0x110000
  unfold Char.toNat
  rcases h with h | h
  · have : (s.toList[i]'(by simpa using hi)).val.toNat < 0xd800 := h
    omega
  · exact h.2
theorem ofString_inj {a b : String} : Str.ofString a = Str.ofString b ↔ a = b := by
  refine ⟨fun h => ?_, fun h => by rw [h]⟩
  rw [Str.ofString_eq_toList, Str.ofString_eq_toList] at h
  have h1 : a.toList.map Char.toNat = b.toList.map Char.toNat := by
    have := congrArg (fun s : Str => s.cps.toList) h
    simpa using this
  have inj : ∀ {x y : List Char}, x.map Char.toNat = y.map Char.toNat → x = y := by
    intro x
    induction x with
    | nil => intro y h; cases y with
      | nil => rfl
      | cons _ _ => cases h
    | cons c r ih =>
      intro y h
      cases y with
      | nil => cases h
      | cons d s =>
        rw [List.map_cons, List.map_cons] at h
        injection h with h1 h2
        rw [Char.toNat_inj.mp h1, ih h2]
  exact String.toList_inj.mp (inj h1)

/-! ### data of a depth -/
def Shp (n : Nat) (d : PyData) : Prop := d.canLay0 = true ∧ d.depth ≤ n
def ShpA (n : Nat) (ds : List PyData) : Prop := PyData.canLayAll0 ds = true ∧ PyData.depthAll ds ≤ n
theorem shaped_of {n : Nat} {d : PyData} (h : Shp n d) (hn : n ≤ 64) : SeqAt.shaped d = true := by
  unfold SeqAt.shaped
  rw [Bool.and_eq_true, decide_eq_true_eq]
  exact ⟨h.1, Nat.le_trans h.2 hn⟩
theorem shp_int (n : Nat) (i : Int) : Shp n (.int i) := ⟨by simp [PyData.canLay0], by simp [PyData.depth]⟩
theorem shp_bool (n : Nat) (i : Bool) : Shp n (.bool i) := ⟨by simp [PyData.canLay0], by simp [PyData.depth]⟩
theorem shp_none (n : Nat) : Shp n .none := ⟨by simp [PyData.canLay0], by simp [PyData.depth]⟩
theorem shp_str (n : Nat) {x : Str} (h : PyData.strOk x = true) : Shp n (.str x) := ⟨by simpa [PyData.canLay0] using h, by simp [PyData.depth]⟩
theorem shpA_nil (n : Nat) : ShpA n [] := ⟨by simp [PyData.canLayAll0], by simp [PyData.depthAll]⟩
theorem shpA_cons {n : Nat} {d : PyData} {ds : List PyData} (h : Shp n d) (r : ShpA n ds) : ShpA n (d :: ds) := by
  refine ⟨?_, ?_⟩
  · simp only [PyData.canLayAll0, Bool.and_eq_true]
    exact ⟨h.1, r.1⟩
  · simp only [PyData.depthAll]
    have h1 := h.2
    have h2 := r.2
    omega
theorem shp_list {n : Nat} {ds : List PyData} (h : ShpA n ds) : Shp (n + 1) (.list ds) := by
  refine ⟨by simpa [PyData.canLay0] using h.1, ?_⟩
  simp only [PyData.depth]
  have := h.2
  omega
theorem shp_tuple {n : Nat} {ds : List PyData} (h : ShpA n ds) : Shp (n + 1) (.tuple ds) := by
  refine ⟨by simpa [PyData.canLay0] using h.1, ?_⟩
  simp only [PyData.depth]
  have := h.2
  omega
theorem shpA_of {n : Nat} : ∀ {ds : List PyData}, (∀ d ∈ ds, Shp n d) → ShpA n ds
  | [], _ => shpA_nil n
  | d :: ds, h => shpA_cons (h d List.mem_cons_self) (shpA_of fun x hx => h x (List.mem_cons_of_mem _ hx))
theorem shpA_ints (n : Nat) (ns : List Int) : ShpA n (ns.map PyData.int) := shpA_of fun d hd => by
  obtain ⟨i, _, rfl⟩ := List.mem_map.mp hd
  exact shp_int n i
theorem Shp.mono {n m : Nat} {d : PyData} (h : Shp n d) (e : n ≤ m) : Shp m d := ⟨h.1, Nat.le_trans h.2 e⟩
@[simp] theorem shaped_int (i : Int) : SeqAt.shaped (.int i) = true := shaped_of (shp_int 0 i) (by decide)
@[simp] theorem shaped_bool (i : Bool) : SeqAt.shaped (.bool i) = true := shaped_of (shp_bool 0 i) (by decide)
@[simp] theorem shaped_none : SeqAt.shaped .none = true := shaped_of (shp_none 0) (by decide)
@[simp] theorem shaped_str (s : String) : SeqAt.shaped (.str (Str.ofString s)) = true := shaped_of (shp_str 0 (strOk_of s)) (by decide)
@[simp] theorem shaped_nilL : SeqAt.shaped (.list []) = true := shaped_of (shp_list (shpA_nil 0)) (by decide)
@[simp] theorem shaped_nilT : SeqAt.shaped (.tuple []) = true := shaped_of (shp_tuple (shpA_nil 0)) (by decide)
@[simp] theorem shaped_ints (ns : List Int) : SeqAt.shaped (.list (ns.map PyData.int)) = true := shaped_of (shp_list (shpA_ints 0 ns)) (by decide)

/-! ### operators -/
section
variable {a b : Int} {x y : PyData}
@[simp] theorem dAdd_int : dAdd (.int a) (.int b) = .ok (.int (a + b)) := rfl
@[simp] theorem dSub_int : dSub (.int a) (.int b) = .ok (.int (a - b)) := rfl
theorem dMul_int (h : mulOk a b = true) : dMul (.int a) (.int b) = .ok (.int (a * b)) := if_pos h
theorem mulOk_r (h1 : -18446744073709551616 < b) (h2 : b < 18446744073709551616) : mulOk a b = true := by
  unfold mulOk
  simp only [Bool.or_eq_true, Bool.and_eq_true, decide_eq_true_eq]
  exact .inl (.inr ⟨by omega, by omega⟩)
theorem mulOk_l (h1 : -18446744073709551616 < a) (h2 : a < 18446744073709551616) : mulOk a b = true := by
  unfold mulOk
  simp only [Bool.or_eq_true, Bool.and_eq_true, decide_eq_true_eq]
  exact .inl (.inl ⟨by omega, by omega⟩)
/-- below so many bits -/
def Bd (n : Nat) (a : Int) : Prop := a.natAbs < 2 ^ n
theorem mulOk_bd {n m : Nat} (ha : Bd n a) (hb : Bd m b) (h : n + m ≤ 900000) : mulOk a b = true := by
  have la : a.natAbs.log2 ≤ n := by
    rcases Nat.eq_zero_or_pos a.natAbs with h0 | hp
    · rw [h0]; simp
    · exact Nat.le_of_lt ((Nat.log2_lt (Nat.ne_of_gt hp)).mpr ha)
  have lb : b.natAbs.log2 ≤ m := by
    rcases Nat.eq_zero_or_pos b.natAbs with h0 | hp
    · rw [h0]; simp
    · exact Nat.le_of_lt ((Nat.log2_lt (Nat.ne_of_gt hp)).mpr hb)
  unfold mulOk
  simp only [Bool.or_eq_true, decide_eq_true_eq]
  exact .inr (by omega)
theorem divOk_bd {n : Nat} (h : 0 < b) (hb : Bd n b) (hn : n ≤ 8999) : divOk b = true := by
  have lb : b.natAbs.log2 ≤ n := by
    rcases Nat.eq_zero_or_pos b.natAbs with h0 | hp
    · rw [h0]; simp
    · exact Nat.le_of_lt ((Nat.log2_lt (Nat.ne_of_gt hp)).mpr hb)
  unfold divOk
  simp only [Bool.and_eq_true, decide_eq_true_eq]
  exact ⟨h, by omega⟩
theorem dDiv_int (h : divOk b = true) : dDiv (.int a) (.int b) = .ok (.int (a / b)) := if_pos h
theorem divOk_small (h : 0 < b) (h2 : b < 18446744073709551616) : divOk b = true := divOk_bd (n := 64) h (by unfold Bd; omega) (by decide)
theorem dMod_int (h : 0 < b) : dMod (.int a) (.int b) = .ok (.int (a % b)) := if_pos h
@[simp] theorem dLt_int : dLt (.int a) (.int b) = .ok (.bool (decide (a < b))) := rfl
@[simp] theorem dLe_int : dLe (.int a) (.int b) = .ok (.bool (decide (a ≤ b))) := rfl
@[simp] theorem dGt_int : dGt (.int a) (.int b) = .ok (.bool (decide (b < a))) := rfl
@[simp] theorem dGe_int : dGe (.int a) (.int b) = .ok (.bool (decide (b ≤ a))) := rfl
theorem dEq_shp (hx : SeqAt.shaped x = true) (hy : SeqAt.shaped y = true) : dEq x y = .ok (.bool (PyData.eqv x y)) := if_pos ⟨hx, hy⟩
theorem dNe_shp (hx : SeqAt.shaped x = true) (hy : SeqAt.shaped y = true) : dNe x y = .ok (.bool (!PyData.eqv x y)) := if_pos ⟨hx, hy⟩
@[simp] theorem dEq_int : dEq (.int a) (.int b) = .ok (.bool (decide (a = b))) := by
  rw [dEq_shp (shaped_int a) (shaped_int b)]
  simp only [PyData.eqv]
  by_cases h : a = b <;> simp [h]
@[simp] theorem dNe_int : dNe (.int a) (.int b) = .ok (.bool (!decide (a = b))) := by
  rw [dNe_shp (shaped_int a) (shaped_int b)]
  simp only [PyData.eqv]
  by_cases h : a = b <;> simp [h]
@[simp] theorem dEq_str {s t : String} : dEq (.str (Str.ofString s)) (.str (Str.ofString t)) = .ok (.bool (decide (s = t))) := by
  rw [dEq_shp (shaped_str s) (shaped_str t)]
  simp only [PyData.eqv]
  congr 2
  by_cases h : s = t
  · subst h; simp
  · have : ¬ Str.ofString s = Str.ofString t := fun z => h (ofString_inj.mp z)
    simp [h, this]
@[simp] theorem dNe_str {s t : String} : dNe (.str (Str.ofString s)) (.str (Str.ofString t)) = .ok (.bool (!decide (s = t))) := by
  rw [dNe_shp (shaped_str s) (shaped_str t)]
  simp only [PyData.eqv]
  congr 3
  by_cases h : s = t
  · subst h; simp
  · have : ¬ Str.ofString s = Str.ofString t := fun z => h (ofString_inj.mp z)
    simp [h, this]
theorem dEq_nil (ds : List PyData) (h : SeqAt.shaped (.list ds) = true) : dEq (.list ds) (.list []) = .ok (.bool ds.isEmpty) := by
  rw [dEq_shp h shaped_nilL]
  cases ds <;> simp [PyData.eqv, PyData.eqvAll]
theorem dNe_nil (ds : List PyData) (h : SeqAt.shaped (.list ds) = true) : dNe (.list ds) (.list []) = .ok (.bool (!ds.isEmpty)) := by
  rw [dNe_shp h shaped_nilL]
  cases ds <;> simp [PyData.eqv, PyData.eqvAll]
@[simp] theorem dNeg_int : dNeg (.int a) = .ok (.int (-a)) := rfl
@[simp] theorem dIs_none : dIs x .none = .ok (.bool (isNone x)) := by cases x <;> rfl
@[simp] theorem dIsNot_none : dIsNot x .none = .ok (.bool (!isNone x)) := by cases x <;> rfl
end
theorem atI_of {α : Type} {xs : List α} {i : Nat} (h : i < xs.length) : atI xs (i : Int) = some xs[i] := atI_nat (by simp [h])
theorem dIx_list {xs : List PyData} {i : Nat} (h : i < xs.length) : dIx (.list xs) (.int (i : Int)) = .ok xs[i] := by
  unfold dIx
  dsimp only
  rw [atI_of h]
theorem dIx_tuple {xs : List PyData} {i : Nat} (h : i < xs.length) : dIx (.tuple xs) (.int (i : Int)) = .ok xs[i] := by
  unfold dIx
  dsimp only
  rw [atI_of h]
theorem dIx_any {xs : List PyData} {i : Int} (h0 : 0 ≤ i) (h1 : i < xs.length) : ∃ x, dIx (.list xs) (.int i) = .ok x ∧ x ∈ xs := by
  have h : i.toNat < xs.length := by omega
  refine ⟨xs[i.toNat], ?_, List.getElem_mem h⟩
  have e := dIx_list h
  rwa [show ((i.toNat : Nat) : Int) = i by omega] at e
section
variable {a b c d : PyData} {r : List PyData}
@[simp] theorem dIx_l0 : dIx (.list (a :: r)) (.int 0) = .ok a := dIx_list (i := 0) (by simp)
@[simp] theorem dIx_l1 : dIx (.list (a :: b :: r)) (.int 1) = .ok b := dIx_list (i := 1) (by simp)
@[simp] theorem dIx_l2 : dIx (.list (a :: b :: c :: r)) (.int 2) = .ok c := dIx_list (i := 2) (by simp)
@[simp] theorem dIx_t0 : dIx (.tuple (a :: r)) (.int 0) = .ok a := dIx_tuple (i := 0) (by simp)
@[simp] theorem dIx_t1 : dIx (.tuple (a :: b :: r)) (.int 1) = .ok b := dIx_tuple (i := 1) (by simp)
@[simp] theorem dIx_t2 : dIx (.tuple (a :: b :: c :: r)) (.int 2) = .ok c := dIx_tuple (i := 2) (by simp)
@[simp] theorem dIx_t3 : dIx (.tuple (a :: b :: c :: d :: r)) (.int 3) = .ok d := dIx_tuple (i := 3) (by simp)
@[simp] theorem toB_bool {b : Bool} : toB (.ok (.bool b)) = .ok b := rfl
@[simp] theorem gLen_list : gLen [.list r] = .ok (.int r.length) := rfl
@[simp] theorem gLen_tuple : gLen [.tuple r] = .ok (.int r.length) := rfl
@[simp] theorem gInt_bool {b : Bool} : gInt [.bool b] = .ok (.int (if b then 1 else 0)) := rfl
@[simp] theorem gInt_int {i : Int} : gInt [.int i] = .ok (.int i) := rfl
@[simp] theorem gAbs_int {i : Int} : gAbs [.int i] = .ok (.int (if i < 0 then -i else i)) := rfl
@[simp] theorem gMax2_int {i j : Int} : gMax2 [.int i, .int j] = .ok (.int (if j > i then j else i)) := rfl
@[simp] theorem gMin2_int {i j : Int} : gMin2 [.int i, .int j] = .ok (.int (if j < i then j else i)) := rfl
@[simp] theorem res_rt {d : PyData} : (Out.rt d).res = .ok d := rfl
@[simp] theorem res_nx {e : Ev} : (Out.nx e).res = .ok .none := rfl
@[simp] theorem res_ex {c : Nat} : (Out.ex c).res = .ex c := rfl
theorem isi_simp_int (d : PyData) : dIsi "int" d = .ok (.bool (is_int d)) := isi_int d
end
/-- a loop keeps what each turn keeps -/
theorem forF_inv {tg : GF} {body : SF} (I : Ev → Prop) : ∀ (ds : List PyData) (env : Ev), I env → (∀ d ∈ ds, ∀ env, I env → ∃ e1 e2, tg d env = some e1 ∧ body e1 = .nx e2 ∧ I e2) → ∃ e, forF tg body ds env = .nx e ∧ I e
  | [], env, h, _ => ⟨env, rfl, h⟩
  | d :: ds, env, h, hs => by
    obtain ⟨e1, e2, h1, h2, h3⟩ := hs d List.mem_cons_self env h
    obtain ⟨e, h4, h5⟩ := forF_inv I ds e2 h3 fun x hx => hs x (List.mem_cons_of_mem _ hx)
    refine ⟨e, ?_, h5⟩
    unfold forF
    rw [h1]
    dsimp only
    rw [h2, Out.loop_nx, h4]
theorem mem_rngF {lo : Int} {n : Nat} {d : PyData} (h : d ∈ rngF lo n) : ∃ k : Int, d = .int k ∧ lo ≤ k ∧ k < lo + n := by
  unfold rngF at h
  obtain ⟨i, hi, rfl⟩ := List.mem_map.mp h
  exact ⟨_, rfl, by omega, by have := List.mem_range.mp hi; omega⟩
end PL
/-! PL, part x: exceptions: raise, what runs while one is handled, try. -/
namespace PL
open PySem PySem.Spec PyProof.Rows L2

/-! ### raise -/
def veB : List Value := [.type "ValueError", .type "Exception", .type "BaseException", .type "object"]
structure ExcD (K : PySem.W.Frag) (mg : Str → Option Value) (ec : Nat → Addr) (x : Str) (c : Nat) : Prop where
  g : mg x = some (.ref (ec c))
  q : PySem.W.excIn K (ec c) veB "ValueError.__new__" = true
  k : PySem.W.keepIn K (.ref (ec c)) = true
  s : PySem.W.subIn K (.ref (ec c)) (.type "BaseException") = some true
  t : PySem.W.typeIn K (.ref (ec c)) = some (.type "type")
def sRaise (c : Nat) (_ : Ev) : Out := .ex c
theorem ss_raise {X : Cx} {ec : Nat → Addr} {W : WX} {G0 H0 : Hp} {x m : Str} {c j : Nat} {p p2 p3 pos : Pos} (D : ExcD X.K X.mg ec x c) (tk : L2N.Takes X W) (hc : X.calm = true) (hg : Gl X x := by rfl) (hdb : (x == ("__debug__" : Str)) = false := by decide) :
    PS X (.Raise (some (.Call (.Name x p) [.Constant (.str m) j p2] [] p3)) none pos) (tDS X.K ec W G0 H0 (sRaise c)) :=
  PS_imp (L2N.ps_raise hc tk (L2N.pmk_own PySem.F.excBase_ValueError D.q D.g D.k (raises_own D.s D.t) hg hdb)) fun Dd σ H ⟨G, env, S, p⟩ => p σ H S.x.h

/-! ### while an exception is handled: a list's end -/
section
variable {prog : Program} {w : World} {A : Around} {E : Value → Shared → Prop} {s : Shared}
theorem list_end_hot {it l x1 : Addr} {i : Nat} {items : Array Value} {Q : Option Value → Shared → Prop} (hot : HotX.HotAt A x1 s.heap) (hit : s.heap.IsListIter it l i) (hl : s.heap.IsList l items) (hx : items[i]? = none)
    (hQ : ∀ h', (∀ b o, b ≠ it → s.heap.get? b = some o → h'.get? b = some o) → Q none { s with heap := h' }) : wpAny (model prog w) A (pyNext (.ref it)) Q E s := by
  obtain ⟨o, ho, hc, hd⟩ := id hit
  obtain ⟨ol, hol, _, nl, hdl⟩ := hl
  obtain ⟨hh, o1, vs1, h1, d1, c1⟩ := hot
  have ne : x1 ≠ it := fun z => by
    subst z
    rw [ho] at h1
    cases h1
    rw [hd] at d1
    cases d1
    cases c1
  unfold pyNext
  refine wpAny_bind (wpAny_attempt (wpAny_callSpecial?_slot (name := Str.ofString "__next__") hit.typeIs slot_listiter_next (wpAny_call_entry slot_listiter_next hit.typeIs entry_listiter_next ?_ (args_listiter_next _))))
  show wpAny _ _ (field (.ref it) 0 >>= _) _ _ s
  refine wpAny_bind (wpAny_field ho hd (x := .ref l) rfl ?_)
  show wpAny _ _ (if (Value.ref l == Value.none) = true then _ else _) _ _ s
  rw [if_neg (show ¬ ((Value.ref l == Value.none) = true) from Bool.false_ne_true)]
  show wpAny _ _ (field (.ref it) 1 >>= _) _ _ s
  refine wpAny_bind (wpAny_field ho hd (x := .int i 0) rfl ?_)
  show wpAny _ _ (seqItems? (.ref l) >>= _) _ _ s
  refine wpAny_bind (wpAny_seqItems hol hdl ?_)
  simp only [Int.toNat_natCast, hx]
  refine wpAny_bind (wpAny_rule (wpAny_bind (wpAny_setField ho hd (by simp) ?_)))
  have h1' := (Heap.get?_update_other s.heap (Obj.mapFields (·.setIfInBounds 0 Value.none)) (Ne.symm ne)).trans h1
  show wpAny _ _ (newExc (.type "StopIteration") [] >>= _) _ _ _
  refine wpAny_bind ?_
  simp only [newExc, newTuple]
  refine wpAny_bind (wpAny_newObj_type ?_ (by size_fits))
  refine wpAny_bind (m := firstArgMember _ _) (wpAny_of_eq (a := Value.none) (by first | rfl | (simp only [firstArgMember]; rfl)) ?_)
  refine wpAny_newObj_type ?_ (by size_fits)
  refine HotX.raiseNew_hot ⟨hh, o1, vs1, Heap.get?_push_of_some _ (Heap.get?_push_of_some _ h1'), d1, c1⟩ (Nat.ne_of_lt (Heap.lt_size (Heap.get?_push_of_some _ h1'))) (Heap.get?_push_size _ rfl) rfl (by first | (simp; done) | (simp; omega)) ?_
  refine wpAny_bind (wpAny_isInstance (T := "StopIteration") (b := true) ⟨_, Heap.get?_update_self _ (Heap.get?_push_size _ rfl) rfl, rfl⟩ isSubtype_stop ?_)
  refine wpAny_pure (hQ _ fun b o hb e => ?_)
  have e' := (Heap.get?_update_other s.heap (Obj.mapFields (·.setIfInBounds 0 Value.none)) (Ne.symm hb)).trans e
  rw [Heap.get?_update_other _ _ (Nat.ne_of_gt (Heap.lt_size (Heap.get?_push_of_some _ e')))]
  exact Heap.get?_push_of_some _ (Heap.get?_push_of_some _ e')
/-- a list's walk there -/
theorem walks_hot {x1 : Addr} {o1 : Obj} {vs1 : Array Value} (hh : A.handled = some (.ref x1)) (d1 : o1.data = .fields vs1) (c1 : vs1[2]? = some .none) (I ax : Addr) (hne : ax ≠ I) (h1 : x1 ≠ I) (items : Array Value) :
    Walks prog w A I [I, ax, x1] [I] items.size (fun i v => items[i]? = some v) (fun i h => h.IsListIter I ax i ∧ h.IsList ax items ∧ h.get? x1 = some o1) where
  sub := fun b hb => by simp at hb; simp [hb]
  frame := fun _ _ _ st hk => ⟨st.1.at fun o e => hk I (by simp) o e, st.2.1.at fun o e => hk ax (by simp) o e, hk x1 (by simp) _ st.2.2⟩
  item := fun i s Q E hi st hQ => by
    refine wpAny_pyNext_list_item st.1 st.2.1 (x := items[i]) (by simp [hi]) fun h' hit' hs' => ?_
    exact hQ _ h' s.toks (by simp [hi]) ⟨hit', st.2.1.extBut hs'.extBut hne, hs'.extBut x1 _ h1 st.2.2⟩ fun b o hb e => hs'.extBut b o (fun h => hb (by simp [h])) e
  done := fun s Q E st hQ => list_end_hot ⟨hh, o1, vs1, st.2.2, d1, c1⟩ st.1 st.2.1 (by simp) fun h' he' => hQ h' s.toks fun b o hb e => he' b o (fun h => hb (by simp [h])) e
  self := fun _ _ _ _ st hQ => wpAny_pyIter_listiter st.1 hQ
end
section
variable {X : Cx}
theorem preSum_list (ns : List Int) : ∀ n, n ≤ ns.length → preSum (fun i => ns.getD i 0) n = (ns.take n).sum
  | 0, _ => by simp [preSum]
  | n + 1, h => by
    rw [preSum, preSum_list ns n (by omega), List.take_add_one (l := ns) (i := n)]
    have : ns[n]? = some ns[n] := by simp
    rw [this]
    show _ = (ns.take n ++ [ns[n]]).sum
    rw [List.sum_append]
    simp [List.getD, this]
theorem cr_sumH (hc : L2H.HotC X) : CallR X (.builtin "sum") (rSum X.K) := by
  intro pins s σ H vs us Q I r h
  obtain ⟨a, ns, rfl, hs, q⟩ := h
  obtain ⟨its, rv, hl, _⟩ := I.list hs
  rw [Vals.ref1 r]
  obtain ⟨p, ⟨hh, v1, e1, c1⟩, hp⟩ := hc
  have P1 := (I.pin p (List.mem_append_left _ hp)).1
  have hlI := hl.isList
  have hlt : a < s.heap.objs.size := by obtain ⟨_, e, _⟩ := hlI; exact Heap.lt_size e
  have hpt : p.1 < s.heap.objs.size := Heap.lt_size P1
  refine call_sum_walkG (A := X.A) (wpAny_pyIter_list hlI ?_)
  refine ⟨_, [s.heap.objs.size, a, p.1], _, _, _, _, fun i => ns.getD i 0, rfl, walks_hot (A := X.A.in1) hh e1 c1 s.heap.objs.size a (Nat.ne_of_lt hlt) (Nat.ne_of_lt hpt) its.toArray, ⟨⟨_, Heap.get?_push_size _ rfl, rfl, rfl⟩, hlI.push _, Heap.get?_push_of_some _ P1⟩, fun b hb => ?_, fun i v hv => ?_, fun h' tk t' hk => ?_⟩
  · show b < (s.heap.push _).objs.size
    rw [Heap.size_push]
    simp only [List.mem_cons, List.not_mem_nil, or_false] at hb
    rcases hb with rfl | rfl | rfl
    · exact Nat.lt_succ_self _
    · exact Nat.lt_succ_of_lt hlt
    · exact Nat.lt_succ_of_lt hpt
  · have hv : its[i]? = some v := by simpa using hv
    have hi : i < its.length := (List.getElem?_eq_some_iff.mp hv).1
    have hln := rv.length
    rw [List.length_map] at hln
    have hx : (ns.map V.int)[i]? = some (V.int (ns.getD i 0)) := by
      rw [List.getElem?_map]
      have : ns[i]? = some (ns[i]'(by omega)) := by simp
      rw [this]
      simp [List.getD, this]
    obtain ⟨u, hu, ru⟩ := rv.get hx
    rw [hv] at hu
    cases hu
    exact ru
  · have hln := rv.length
    rw [List.length_map] at hln
    have e : preSum (fun i => ns.getD i 0) its.toArray.size = ns.sum := by
      rw [preSum_list ns _ (by simp; omega)]
      simp [← hln]
    rw [e]
    refine ⟨.int _, H, I.kept fun b o e => hk b o (fun hm => ?_) (Heap.get?_push_of_some _ e), ⟨_, rfl⟩, q⟩
    have hz := Heap.lt_size e
    have hb : b = s.heap.objs.size := by simpa using hm
    rw [hb] at hz
    exact absurd hz (Nat.lt_irrefl _)
end

/-! ### a comprehension there, over a list, its turns leave the heap -/
def tLcH (K : PySem.W.Frag) (tl te : TE) (i0 : Nat) (vs : List Nat) : TE := fun σ H Q => tl σ H fun x H1 => ∃ a xs ys, x = .ref a ∧ LsL K H1 a xs ∧ ys.length = xs.length ∧
  (∀ (i : Nat) (x y : V), xs[i]? = some x → ys[i]? = some y → ∀ H', te ((wipe σ vs).set i0 (some x)) H' fun z H2 => z = y ∧ H2 = H') ∧ ∀ D, H1 D = none → Q (.ref D) (upd H1 D (.lst ys))
theorem upd_upd {H : Hp} {a : Addr} {o o' : HO} : upd (upd H a o) a o' = upd H a o' := by
  funext b
  by_cases h : b = a
  · subst h; rw [upd_same, upd_same]
  · rw [upd_ne h, upd_ne h, upd_ne h]
section
variable {X : Cx}
theorem pe_lcH {elt l : Expr} {y : Str} {i0 : Nat} {scope : Scope} {own : List (Str × Nat)} {pos qp : Pos} {tl te : TE} (hc : L2H.HotC X) (hN : X.N.Nodup) (hl : PE X l tl) (ok : BlkOk X.N X.env.scope scope own) (hi0 : i0 ∈ own.map (·.2))
    (hg : ∀ (s : Shared) (H : Hp) (C : Addr) (cl : List (Str × Addr)) (fp : List Addr), PG (X.blk s H scope (compEnvC scope cl C X.env) fp) (.Name y qp) (gName i0))
    (he : ∀ (s : Shared) (H : Hp) (C : Addr) (cl : List (Str × Addr)) (fp : List Addr), PE (X.blk s H scope (compEnvC scope cl C X.env) fp) elt te) (hs : ∀ x, foldedSetIterable l X.env x = pure x := by intro _; rfl) :
    PE X (.ListComp elt [⟨.Name y qp, l, [], 0⟩] scope pos) (tLcH X.K tl te i0 (own.map (·.2))) := by
  refine ⟨fun pins s σ H Q I h => ?_⟩
  rw [eval_ListComp]
  have hfree : ∀ y ∈ scope.names, y.2 = .free → ∃ c, X.env.cells.lookup y.1 = some c := fun y hy e => (ok.free y hy e).elim (fun k => I.ok.has _ (.inl k)) fun k => I.ok.has _ (.inr k)
  refine wpAny_comprehension_free (use := none) rfl hs (closure_ok hfree) ok.kind (fun y hy e => by rw [ok.uniq y hy, e])
    (thn (hl.run pins s σ H _ I h) fun xv s1 hx => ?_)
  obtain ⟨x, H1, I1, r1, a, xs, ys, rfl, hq, hyl, hturn, hend⟩ := hx
  cases r1
  obtain ⟨its, rv, p, hz⟩ := I1.list hq.sq
  refine wpAny_pyIter_list p.isList ?_
  have hxl := rv.length
  -- the iterator
  generalize hit : s1.heap.objs.size = it
  generalize hs2 : ({ s1 with heap := s1.heap.push { cls := .type "list_iterator", data := .fields #[.ref a, .int 0 0] } } : Shared) = s2
  have e2 : s2.heap = s1.heap.push { cls := .type "list_iterator", data := .fields #[.ref a, .int 0 0] } := by rw [← hs2]
  have I2 : Inv X pins σ H1 s2 := by
    rw [← hs2]
    exact I1.kept (t' := s1.toks) fun b o e => Heap.get?_push_of_some _ e
  have st2 : s2.heap.IsListIter it a 0 := by
    rw [e2, ← hit]
    exact ⟨_, Heap.get?_push_size _ rfl, rfl, rfl⟩
  have fIt : FpOk X pins H1 it := by
    rw [← hit]
    exact I1.fpOk (Nat.le_refl _) (I1.hok.fresh (Nat.le_refl _))
  have ltIt : it < s2.heap.objs.size := by
    rw [e2, Heap.size_push, ← hit]
    exact Nat.lt_succ_self _
  refine wpAny_newObj_type (newEnv_comp ?_) (by show 0 ≤ sizeLine; decide)
  generalize hD : s2.heap.objs.size = D
  have hDn : H1 D = none := I2.hok.fresh (Nat.le_of_eq hD)
  generalize hs3 : ({ s2 with heap := s2.heap.push { cls := .type "list", data := .seq ([] : List Value).toArray } } : Shared) = s3
  have e3 : s3.heap = s2.heap.push { cls := .type "list", data := .seq ([] : List Value).toArray } := by rw [← hs3]
  have I3 : Inv X pins σ (upd H1 D (.lst [])) s3 := by
    rw [← hs3]
    refine I2.laid (t' := s2.toks) (fun b o e => Heap.get?_push_of_some _ e) (Nat.le_of_eq hD) ⟨Nat.zero_le _, [], 0, .nil, ?_⟩
    rw [← hD]
    exact Heap.get?_push_size _ rfl
  have ne1 : it ≠ D := by rw [← hD]; exact Nat.ne_of_lt ltIt
  have f3 : ∀ b ∈ [it], FpOk X pins (upd H1 D (.lst [])) b ∧ b < s3.heap.objs.size := fun b hb => by
    have e : b = it := by simpa using hb
    subst e
    refine ⟨⟨?_, fIt.2⟩, by rw [e3, Heap.size_push]; exact Nat.lt_succ_of_lt ltIt⟩
    rw [upd_ne ne1]
    exact fIt.1
  have st3 : s3.heap.IsListIter it a 0 := st2.at fun o e => by rw [e3]; exact Heap.get?_push_of_some _ e
  have I4 := block_start I3 ok hN f3
  have pg := hg s3 (upd H1 D (.lst [])) s3.heap.objs.size (cellsFrom (s3.heap.objs.size + 1) scope.names (cloFrom X.env.cells scope.names [])) [it]
  have pe := he s3 (upd H1 D (.lst [])) s3.heap.objs.size (cellsFrom (s3.heap.objs.size + 1) scope.names (cloFrom X.env.cells scope.names [])) [it]
  show codeAny _ _ (.compStart (.ListComp elt [⟨.Name y qp, l, [], 0⟩] scope pos) 0 (.ref it) (.ref D) (compEnvC scope (cellsFrom (s3.heap.objs.size + 1) scope.names (cloFrom X.env.cells scope.names [])) s3.heap.objs.size X.env)) (compPost (model X.prog X.w) X.A X.xe none _ (.ref D) s3.heap.objs.size) { s3 with heap := pushCells (s3.heap.push { cls := .type "dict", data := .dict #[] }) scope.names }
  -- the handled exception
  obtain ⟨hp, ⟨hh, v1, d1, c1⟩, hpn⟩ := hc
  have P3 := I3.pin hp (List.mem_append_left _ hpn)
  have hpIt : hp.1 ≠ it := fun z => by
    have q1 := (I1.pin hp (List.mem_append_left _ hpn)).1
    have := Heap.lt_size q1
    rw [z, ← hit] at this
    exact absurd this (Nat.lt_irrefl _)
  generalize hce : compEnvC scope (cellsFrom (s3.heap.objs.size + 1) scope.names (cloFrom X.env.cells scope.names [])) s3.heap.objs.size X.env = ce at I4 pg pe ⊢
  have cL : ce.locals = s3.heap.objs.size := by subst hce; rfl
  generalize hH3 : upd H1 D (.lst []) = H3 at I3 I4 pg pe f3 P3
  generalize hs4 : ({ s3 with heap := pushCells (s3.heap.push { cls := .type "dict", data := .dict #[] }) scope.names } : Shared) = s4 at I4 ⊢
  have st4 : s4.heap.IsListIter it a 0 := st3.at fun o e => by rw [← hs4]; exact pushCells_keeps _ _ _ _ (Heap.get?_push_of_some _ e)
  have hot : ∀ {σ' : L2.St} {H' : Hp} {s' : Shared} {ps : List (Addr × Obj)}, Inv (X.blk s3 H3 scope ce [it]) ps σ' H' s' → HotX.HotAt X.A hp.1 s'.heap := fun {σ' H' s' ps} I' =>
    ⟨hh, hp.2, v1, I'.base.keep hp.1 hp.2 P3.1 P3.2.1 (fun hm => (List.mem_cons.mp (I3.stkSub hp.1 hm)).elim P3.2.2.1 P3.2.2.2.1) (show hp.1 ∉ [it] by simpa using hpIt), d1, c1⟩
  have stat : ∀ {σ' : L2.St} {H' : Hp} {s' : Shared}, Inv (X.blk s3 H3 scope ce [it]) [] σ' H' s' → H' it = none → FpOk (X.blk s3 H3 scope ce [it]) [] H' it := fun {σ' H' s'} I' hn =>
    ⟨hn, (I'.ok.exf it (by show it ∈ [it]; simp)).1, I'.ok.exfs it (by show it ∈ [it]; simp), .inl (by show it ∈ [it]; simp), fun x c e => (I'.ok.exf it (by show it ∈ [it]; simp)).2 x c e, fun p hp => absurd (show p ∈ ([] : List (Addr × Obj)) ++ [] from hp) (by simp)⟩
  have lsD : ∀ zs : List V, LsL X.K (upd H1 D (.lst zs)) a xs := fun zs => ls_same (same_new hDn) hq
  have frD : ∀ zs : List V, (upd H1 D (.lst zs)) it = none := fun zs => by rw [upd_ne ne1]; exact fIt.1
  have loop : codeAny (model X.prog X.w) X.A (.compLoop (.ListComp elt [⟨.Name y qp, l, [], 0⟩] scope pos) 0 (.ref it) (.ref D) ce) (compPost (model X.prog X.w) X.A X.xe none (EP X pins σ Q) (.ref D) s3.heap.objs.size) s4 := by
    refine compLoop_any (fun n s' => ∃ i, i + n = ys.length ∧ Inv (X.blk s3 H3 scope ce [it]) [] (wipe σ (own.map (·.2))) (upd H1 D (.lst (ys.take i))) s' ∧ s'.heap.IsListIter it a i) ?_ ys.length ⟨0, Nat.zero_add _, by rw [List.take_zero, hH3]; exact I4, st4⟩
    rintro n s5 ⟨i, hn, I5, st5⟩
    obtain ⟨its5, rv5, p5, _⟩ := I5.list (lsD _).sq
    have hl5 := rv5.length
    have fp5 := stat I5 (frD _)
    cases n with
    | zero =>
      refine list_end_hot (hot I5) st5 p5.isList (by simp; omega) fun h6 kp => ?_
      obtain ⟨f0, f1, f2, f3', f4, f5⟩ := fp5
      have I6 := I5.turned (h' := h6) (t' := s5.toks) (fun b o hb e => kp b o hb e) f0 f1 f3' f4 f5
      have I7 : Inv X pins σ (upd H1 D (.lst (ys.take i))) { s5 with heap := h6 } := I3.call' (ch := [it]) I6.os I6.base I6.hok I6.bare fun b hb => ⟨(f3 b hb).1.2.2.2.1, (f3 b hb).1.2.1, (f3 b hb).1.2.2.2.2.1, (f3 b hb).1.2.2.2.2.2⟩
      have hi : i = ys.length := by omega
      subst hi
      rw [List.take_length] at I6 I7
      have nC : (upd H1 D (.lst ys)) s3.heap.objs.size = none := by
        have z := I6.free
        rw [show (X.blk s3 H3 scope ce [it]).env.locals = ce.locals from rfl, cL] at z
        exact z
      obtain ⟨m, hm, _⟩ := I6.loc
      have hm : ({ s5 with heap := h6 } : Shared).heap.Ns ce.locals m := hm
      rw [cL] at hm
      refine ⟨m, hm, fun h'' sb => ?_⟩
      obtain ⟨g0, g1, g2, g3, g4, g5⟩ := I3.fpOk (b := s3.heap.objs.size) (Nat.le_refl _) (I3.hok.fresh (Nat.le_refl _))
      exact ⟨.ref D, _, I7.turned (t' := s5.toks) (fun b o hb e => (sb.2 b hb).trans e) nC g1 g3 g4 g5, rfl, hend D hDn⟩
    | succ n =>
      have hi : i < ys.length := by omega
      have hxi : xs[i]? = some (xs[i]'(by omega)) := by simp
      have hyi : ys[i]? = some ys[i] := by simp
      obtain ⟨u, hu, ru⟩ := rv5.get hxi
      refine wpAny_pyNext_list_item st5 p5.isList (x := u) (by simpa using hu) fun h6 st6 sb => ?_
      obtain ⟨f0, f1, f2, f3', f4, f5⟩ := id fp5
      have I6 := I5.turned (h' := h6) (t' := s5.toks) (fun b o hb e => (sb.2 b hb).trans e) f0 f1 f3' f4 f5
      obtain ⟨o6, q1, q2, q3⟩ := id st6
      refine go_of (s := { s5 with heap := h6 }) q1 q2 q3 (by decide) ?_
      have I6' := I6.pinned (fp := [it]) (fun b hb => by
        have e : b = it := by simpa using hb
        subst e
        exact stat I6 (frD _)) (fun b hb => by
        have e : b = it := by simpa using hb
        subst e
        exact ⟨o6, q1, fun v z => by rw [q3] at z; cases z⟩)
      refine thnF (pg.run _ _ _ _ xs[i] u (fun σ2 H2 => σ2 = (wipe σ (own.map (·.2))).set i0 (some xs[i]) ∧ H2 = upd H1 D (.lst (ys.take i))) I6' ru ⟨rfl, rfl⟩) fun _ s8 ⟨σ8, H8, I8, e8, eh8⟩ => ?_
      subst e8 eh8
      refine wpAny_tests_nil ?_
      simp only [if_true]
      refine thnF (pe.run _ s8 _ _ _ I8 (hturn i _ _ hxi hyi _)) fun z s10 ⟨yv, H10, I10, r10, ey, eh⟩ => ?_
      subst ey eh
      refine app_ok (X := X.blk s3 H3 scope ce [it]) I10 upd_same (by rw [List.length_take]; exact Nat.lt_of_le_of_lt (Nat.min_le_left _ _) (Nat.lt_of_lt_of_le hi (by rw [hyl]; exact hz))) r10 fun s11 I11 => ?_
      rw [upd_upd] at I11
      have et : ys.take i ++ [ys[i]] = ys.take (i + 1) := by rw [List.take_add_one, hyi]; rfl
      rw [et] at I11
      refine ⟨n, Nat.lt_succ_self _, i + 1, by omega, (I11.unpinned (pins := [])).weak (by rw [List.length_set]) (fun j v e => ?_), ?_⟩
      · by_cases hj : j = i0
        · subst hj
          rw [wipe_get, if_pos hi0] at e
          cases h : σ[j]? with
          | none => rw [h] at e; cases e
          | some _ => rw [h] at e; cases e
        · rw [List.getElem?_set_ne (Ne.symm hj)]; exact e
      · refine st6.at fun o e => ?_
        exact (I11.pin (it, o) (List.mem_append_right _ (List.mem_append_right _ (mem_pinsAt (by simp) e)))).1
  exact codeAny_compStart_list loop (wpAny_pyIter_listiter st4 loop)
end
end PL
/-! PL, part y: a def that tells a word of the handled exception. -/
namespace PL
open PySem PySem.Spec PyProof.Rows L2

/-- the context bears the exception p of class D -/
structure HeldE (X : Cx) (p : Addr × Obj) (D : Addr) : Prop where
  hp : p ∈ X.pn
  hot : L2H.Hot1 X.A p
  cls : ExcC X.K D
  z : Zc (.ref D) none p.2
  f : ∃ vs, p.2.data = .fields vs
section
variable {X : Cx} {p : Addr × Obj} {D : Addr}
theorem HeldE.hc (h : HeldE X p D) : L2H.HotC X := ⟨p, h.hot, h.hp⟩
theorem call_isW (h : HeldE X p D) : CallR X (.builtin "isinstance") (rIsE X.K D p.1) := by
  intro pins s σ H xs us Q I r q
  obtain ⟨c, cv, b, rfl, hcv, e, q⟩ := q
  obtain ⟨a, oe⟩ := p
  obtain ⟨oc, od, oda, osl⟩ := oe
  obtain ⟨⟨h1, h2⟩, vs, hv⟩ := h.z, h.f
  cases r with
  | cons rx rr =>
    cases rr with
    | cons rt rr =>
      cases rr
      cases rx
      have ec := hcv _ rt
      subst ec
      have hget := (I.pin _ (List.mem_append_left _ h.hp)).1
      dsimp only at h1 h2 hv
      subst h1 h2 hv
      have J : PySem.W.InstAt s.heap a ⟨.ref D, none, .fields vs, osl⟩ D none := ⟨hget, rfl, rfl, trivial⟩
      have C := h.cls
      exact PySem.W.kia_one (PySem.W.handS_kitx_exc C.hg C.hk C.hs C.hd C.ha C.hn C.ht C.hm) I.kIn J e (fun z => nomatch z) fun tk => ⟨.bl b, H, I.kept (t' := tk) fun _ _ z => z, rfl, q⟩
/-- isinstance(e, C), e in slot 0 -/
def tIs (a : Addr) (b : Bool) : TE := fun σ H Q => σ[0]? = some (some (.ref a)) ∧ Q (.bl b) H
/-- the name x is the class cv -/
inductive ClsNm (X : Cx) (x : Str) (cv : Value) : Prop where
  | own {C : Addr} (e : cv = .ref C) (g : X.mg x = some (.ref C))
  | blt {T : String} (e : cv = .type T) (g : X.mg x = none) (b : bootBuiltins x = some (.type T))
theorem pe_isW {e x : Str} {cv : Value} {b : Bool} {p1 p2 p3 p4 : Pos} (h : HeldE X p D) (hg : Gl X "isinstance") (hm : X.mg "isinstance" = none) (hN : X.N[0]? = some e) (hv : Vis X.env.scope e) (hgx : Gl X x) (hx : ClsNm X x cv) (hk : PySem.W.kitOne X.K (.ref D) cv = some b)
    (hd : (e == ("__debug__" : Str)) = false := by decide) (hcd : (e == ("__classdict__" : Str)) = false := by decide) (hnx : x ≠ "__name__" := by decide) (hdx : (x == ("__debug__" : Str)) = false := by decide)
    (he : starEach [.Name e p2, .Name x p3] X.env = (false, eval (.Name e p2) X.env) :: starEach [.Name x p3] X.env := by rfl) : PE X (.Call (.Name "isinstance" p1) [.Name e p2, .Name x p3] [] p4) (tIs p.1 b) := by
  have fin : ∀ (c : V), (∀ u, RelV c u → u = cv) → PE X (.Name x p3) (tC c) → PE X (.Call (.Name "isinstance" p1) [.Name e p2, .Name x p3] [] p4) (tIs p.1 b) := fun c hc pc =>
    PE_imp (pe_callB (t := tCons (tVar 0) (tCons (tC c) tNil)) (call_isW h) hg hm (by decide +kernel) (pa_cons (pe_var hN hv hd hcd) (pa_cons pc pa_nil rfl) he) (by decide) (by decide) he rfl) fun σ H Q ⟨h0, q⟩ => ⟨_, h0, c, cv, b, rfl, hc, hk, q⟩
  cases hx with
  | own e g => subst e; exact fin (.ref _) (fun u r => r) (pe_glob hgx g rfl hdx)
  | blt e g bb => subst e; exact fin (.ty _) (fun u r => r) (pe_bltn hgx g bb rfl hnx hdx)
def tIsL (a : Addr) (bs : List Bool) : TA := fun σ H Q => σ[0]? = some (some (.ref a)) ∧ Q (bs.map V.bl) H
theorem pa_isN {a : Addr} : PA X [] (tIsL a []) := ⟨fun pos pins s σ H Q I q => pa_nil.run pos pins s σ H Q I q.2⟩
theorem pa_isC {a : Addr} {b : Bool} {bs : List Bool} {e : Expr} {es : List Expr} (h1 : PE X e (tIs a b)) (h2 : PA X es (tIsL a bs)) (he : starEach (e :: es) X.env = (false, eval e X.env) :: starEach es X.env := by rfl) : PA X (e :: es) (tIsL a (b :: bs)) :=
  ⟨fun pos pins s σ H Q I q => (pa_cons h1 h2 he).run pos pins s σ H Q I ⟨q.1, q.1, q.2⟩⟩
end

/-- texts -/
def tStrs (ws : List Str) : TA := fun _ H Q => Q (ws.map V.str) H
section
variable {X : Cx}
theorem pa_strN : PA X [] (tStrs []) := ⟨fun pos pins s σ H Q I q => pa_nil.run pos pins s σ H Q I q⟩
theorem pa_strC {x : Str} {ws : List Str} {j : Nat} {p : Pos} {es : List Expr} (h2 : PA X es (tStrs ws)) (he : starEach (.Constant (.str x) j p :: es) X.env = (false, eval (.Constant (.str x) j p) X.env) :: starEach es X.env := by rfl) : PA X (.Constant (.str x) j p :: es) (tStrs (x :: ws)) :=
  ⟨fun pos pins s σ H Q I q => (pa_cons pe_str h2 he).run pos pins s σ H Q I q⟩
end

/-! ### the def's states -/
structure W1 (K : PySem.W.Frag) (a : Addr) (H0 : Hp) (n i : Nat) (fl : List Bool) (σ : L2.St) (H : Hp) : Prop where
  len : σ.length = n
  e : σ[0]? = some (some (.ref a))
  s : Same H0 H
  l : ∃ l, σ[i]? = some (some (.ref l)) ∧ LsL K H l (fl.map V.bl)
section
variable {X : Cx} {p : Addr × Obj} {D : Addr} {H0 : Hp} {n i j c : Nat} {fl bs : List Bool} {es : List Expr} {x y z : Str} {pos p1 p2 p3 p4 p5 p6 p7 p8 : Pos}
/-- flags = [..] -/
theorem sw_new (hN : X.N.Nodup) (ha : PA X es (tIsL p.1 fl)) (hi : X.N[i]? = some x) (hx : Loc X.env.scope x) (hlt : i < n) (h0 : 0 ≠ i) (hl : fl.length ≤ 1000) (hs : swapsWith (.List es p2) (some (.Name x p1)) pos.line X.env = pure false := by rfl) (hf : X.fn x = true ∨ X.env.scope.names.lookup x = some .local := by first | exact .inl rfl | exact .inr rfl) :
    PS X (.Assign [.Name x p1] (.List es p2) pos) (fun D σ H => (σ.length = n ∧ σ[0]? = some (some (.ref p.1)) ∧ Same H0 H) ∧ ∀ σ' H', W1 X.K p.1 H0 n i fl σ' H' → D.nx σ' H') :=
  PS_imp (ps_set (i := i) hN hi hx (pe_lst ha) hs hf) fun D σ H ⟨⟨h1, h2, h3⟩, k⟩ => ⟨h2, Nat.le_of_lt (small1000 (by rw [List.length_map]; exact hl)), fun l hl => k _ _ ⟨by rw [List.length_set]; exact h1, by rw [List.getElem?_set_ne (Ne.symm h0)]; exact h2, h3.trans (same_new hl), l, List.getElem?_set_self (by rw [h1]; exact hlt), .of upd_same⟩⟩
/-- flags = flags + [..] -/
theorem sw_more (hN : X.N.Nodup) (ha : PA X es (tIsL p.1 bs)) (hi : X.N[i]? = some x) (hx : Loc X.env.scope x) (hv : Vis X.env.scope x) (hlt : i < n) (h0 : 0 ≠ i) (hl : fl.length + bs.length ≤ 1000) (hd : (x == ("__debug__" : Str)) = false := by decide) (hcd : (x == ("__classdict__" : Str)) = false := by decide)
    (hs : swapsWith (.BinOp (.Name x p3) .Add (.List es p2) p4) (some (.Name x p1)) pos.line X.env = pure false := by rfl) (hf : X.fn x = true ∨ X.env.scope.names.lookup x = some .local := by first | exact .inl rfl | exact .inr rfl) :
    PS X (.Assign [.Name x p1] (.BinOp (.Name x p3) .Add (.List es p2) p4) pos) (fun D σ H => W1 X.K p.1 H0 n i fl σ H ∧ ∀ σ' H', W1 X.K p.1 H0 n i (fl ++ bs) σ' H' → D.nx σ' H') :=
  PS_imp (ps_set (i := i) hN hi hx (pe_op op_catR (pe_var hi hv hd hcd) (pe_lst ha)) hs hf) fun D σ H ⟨w, k⟩ => by
    obtain ⟨l, h1, h2⟩ := w.l
    refine ⟨_, h1, w.e, Nat.le_of_lt (small1000 (by rw [List.length_map]; omega)), fun l2 n2 => ⟨l, l2, fl.map V.bl, bs.map V.bl, rfl, rfl, ls_same (same_new n2) h2, .of upd_same, Nat.le_of_lt (small1000 (by rw [List.length_map, List.length_map]; exact hl)), fun l3 n3 => k _ _ ⟨by rw [List.length_set]; exact w.len, by rw [List.getElem?_set_ne (Ne.symm h0)]; exact w.e, (w.s.trans (same_new n2)).trans (same_new n3), l3, List.getElem?_set_self (by rw [w.len]; exact hlt), .of ?_⟩⟩⟩
    rw [List.map_append]
    exact upd_same
/-- how many are so -/
def cntB (fl : List Bool) : Int := (fl.map fun b => if b then (1 : Int) else 0).sum
/-- if sum([int(flag) for flag in flags]) != 1 or not isinstance(e, ValueError): return .. -/
theorem sw_if {ev yf : Str} {scope : Scope} {own : List (Str × Nat)} {q1 q2 q3 q4 q5 q6 q7 q8 q9 q10 : Pos} {j1 : Nat} {retS : List Stmt} {tr : TS} (h : HeldE X p D) (hN : X.N.Nodup) (hi : X.N[i]? = some x) (hv : Vis X.env.scope x) (hc : X.N[c]? = some yf) (hlc : c < n) (hic : c ≠ i) (h0c : c ≠ 0)
    (hsum : Gl X "sum" ∧ X.mg "sum" = none) (hint : ∀ (s : Shared) (H : Hp) (C : Addr) (cl : List (Str × Addr)) (fp : List Addr), Gl (X.blk s H scope (compEnvC scope cl C X.env) fp) "int") (hint2 : X.mg "int" = none)
    (ok : BlkOk X.N X.env.scope scope own) (hown : own.map (·.2) = [c])
    (hg : ∀ (s : Shared) (H : Hp) (C : Addr) (cl : List (Str × Addr)) (fp : List Addr), PG (X.blk s H scope (compEnvC scope cl C X.env) fp) (.Name yf q1) (gName c))
    (hvf : ∀ (s : Shared) (H : Hp) (C : Addr) (cl : List (Str × Addr)) (fp : List Addr), PE (X.blk s H scope (compEnvC scope cl C X.env) fp) (.Name yf q2) (tVar c))
    (hb : PE X (.Call (.Name "isinstance" p1) [.Name ev p2, .Name y p3] [] p4) (tIs p.1 true)) (hr : PSs X retS tr)
    (hone : cntB fl = 1) (hd : (x == ("__debug__" : Str)) = false := by decide) (hcd : (x == ("__classdict__" : Str)) = false := by decide)
    (he : ∀ (s : Shared) (H : Hp) (C : Addr) (cl : List (Str × Addr)) (fp : List Addr), starEach [.Name yf q2] (X.blk s H scope (compEnvC scope cl C X.env) fp).env = (false, eval (.Name yf q2) (X.blk s H scope (compEnvC scope cl C X.env) fp).env) :: starEach [] (X.blk s H scope (compEnvC scope cl C X.env) fp).env := by intros; rfl)
    (he2 : starEach [.ListComp (.Call (.Name "int" q3) [.Name yf q2] [] q4) [⟨.Name yf q1, .Name x q5, [], 0⟩] scope q6] X.env = (false, eval (.ListComp (.Call (.Name "int" q3) [.Name yf q2] [] q4) [⟨.Name yf q1, .Name x q5, [], 0⟩] scope q6) X.env) :: starEach [] X.env := by rfl) :
    PS X (.If (.BoolOp .Or [.Compare (.Call (.Name "sum" q7) [.ListComp (.Call (.Name "int" q3) [.Name yf q2] [] q4) [⟨.Name yf q1, .Name x q5, [], 0⟩] scope q6] [] q8) [.NotEq] [.Constant (.int 1) j1 q9] q10, .UnaryOp .Not (.Call (.Name "isinstance" p1) [.Name ev p2, .Name y p3] [] p4) p5] p6) retS [] pos)
      (fun D σ H => W1 X.K p.1 H0 n i fl σ H ∧ ∀ σ' H', W1 X.K p.1 H0 n i fl σ' H' → D.nx σ' H') := by
  have lc := pe_lcH (i0 := c) (y := yf) (qp := q1) (pos := q6) (elt := .Call (.Name "int" q3) [.Name yf q2] [] q4) h.hc hN (pe_var (pos := q5) hi hv hd hcd) ok (by rw [hown]; simp) hg
    (fun s H C cl fp => pe_callTy (t := tCons (tVar c) tNil) (x := "int") (p := q3) (pos := q4) call_int1 (hint s H C cl fp) hint2 (by decide +kernel) (pa_cons (hvf s H C cl fp) pa_nil (he s H C cl fp)) (he := he s H C cl fp) (hpl := rfl))
  have cmp := pt_cmpR (op := .NotEq) (pos := q10) op_ne (pe_callB (p := q7) (pos := q8) (cr_sumH h.hc) hsum.1 hsum.2 (by decide +kernel) (pa_cons lc pa_nil he2) (by decide) (by decide) he2 rfl) (pe_int (i := 1) (j := j1) (pos := q9)) (nomark _)
  refine PS_imp (ps_if (PW.pt (pw_or (pos := p6) cmp (pw_or1 (pos := p6) (pt_not (pos := p5) (pt_val hb))))) hr pss_nil) fun D σ H ⟨w, k⟩ => ?_
  obtain ⟨l, h1, h2⟩ := w.l
  rw [hown]
  refine ⟨_, h1, l, fl.map V.bl, (fl.map fun b => if b then (1 : Int) else 0).map V.int, rfl, h2, by simp, fun m x' y' e1 e2 H' => ?_, fun L nL => ⟨L, fl.map fun b => if b then (1 : Int) else 0, rfl, .inl (.inl upd_same), ?_⟩⟩
  · rw [List.getElem?_map] at e1
    rw [List.getElem?_map, List.getElem?_map] at e2
    cases q : fl[m]? with
    | none => rw [q] at e1; cases e1
    | some b =>
      rw [q] at e1 e2
      cases e1
      cases e2
      refine ⟨_, List.getElem?_set_self ?_, .inr ⟨b, rfl, rfl, rfl⟩⟩
      rw [wipe_length, w.len]
      exact hlc
  · refine ⟨rfl, ?_⟩
    have e1 : (fl.map fun b => if b then (1 : Int) else 0).sum = 1 := hone
    rw [e1]
    refine ⟨false, by simp, ?_⟩
    refine ⟨w.e, ?_⟩
    refine ⟨true, rfl, ?_⟩
    exact k _ _ ⟨w.len, w.e, w.s.trans (same_new nL), l, h1, ls_same (same_new nL) h2⟩
/-- words = [..] -/
theorem sw_words {ws : List Str} (hN : X.N.Nodup) (ha : PA X es (tStrs ws)) (hj : X.N[j]? = some y) (hy : Loc X.env.scope y) (hlt : j < n) (h0 : 0 ≠ j) (hij : i ≠ j) (hl : ws.length ≤ 1000) (hs : swapsWith (.List es p2) (some (.Name y p1)) pos.line X.env = pure false := by rfl) (hf : X.fn y = true ∨ X.env.scope.names.lookup y = some .local := by first | exact .inl rfl | exact .inr rfl) :
    PS X (.Assign [.Name y p1] (.List es p2) pos) (fun D σ H => W1 X.K p.1 H0 n i fl σ H ∧ ∀ σ' H', (W1 X.K p.1 H0 n i fl σ' H' ∧ ∃ l, σ'[j]? = some (some (.ref l)) ∧ LsL X.K H' l (ws.map V.str)) → D.nx σ' H') :=
  PS_imp (ps_set (i := j) hN hj hy (pe_lst ha) hs hf) fun D σ H ⟨w, k⟩ => by
    obtain ⟨l, h1, h2⟩ := w.l
    exact ⟨Nat.le_of_lt (small1000 (by rw [List.length_map]; exact hl)), fun L nL => k _ _ ⟨⟨by rw [List.length_set]; exact w.len, by rw [List.getElem?_set_ne (Ne.symm h0)]; exact w.e, w.s.trans (same_new nL), l, by rw [List.getElem?_set_ne (Ne.symm hij)]; exact h1, ls_same (same_new nL) h2⟩, L, List.getElem?_set_self (by rw [w.len]; exact hlt), .of upd_same⟩⟩
/-- return words[flags.index(True)] -/
theorem sw_ret {ws : List Str} {wd : Str} {m j1 : Nat} {q1 q2 : Pos} (hi : X.N[i]? = some x) (hv : Vis X.env.scope x) (hj : X.N[j]? = some y) (hvj : Vis X.env.scope y) (hm : fl[m]? = some true) (hb : ∀ m', m' < m → fl[m']? = some false) (hw : ws[m]? = some wd)
    (hd : (x == ("__debug__" : Str)) = false := by decide) (hcd : (x == ("__classdict__" : Str)) = false := by decide) (hdj : (y == ("__debug__" : Str)) = false := by decide) (hcdj : (y == ("__classdict__" : Str)) = false := by decide)
    (hbase : attributeBase (.Name x p1) "index" X.env (eval (.Name x p1) X.env) = eval (.Name x p1) X.env := by rfl) (hline : (p2.endLine == p4.line) = true := by rfl)
    (hfew : ((backTo p4 (starEach [.Constant (.bool true) j1 p3] X.env)).all (fun x => !x.1) && (backToKw p4 (keywordEach [] X.env)).all (fun x => x.1.isSome)
      && decide (([.Constant (.bool true) j1 p3] : List Expr).length + ([] : List Keyword).length + (if ([] : List Keyword).isEmpty then 0 else 1) < 30)) = true := by rfl)
    (hst : starEach [.Constant (.bool true) j1 p3] X.env = (false, eval (.Constant (.bool true) j1 p3) X.env) :: starEach [] X.env := by rfl) :
    PS X (.Return (some (.Subscript (.Name y q1) (.Call (.Attribute (.Name x p1) "index" p2) [.Constant (.bool true) j1 p3] [] p4) q2)) pos)
      (fun D σ H => (W1 X.K p.1 H0 n i fl σ H ∧ ∃ l, σ[j]? = some (some (.ref l)) ∧ LsL X.K H l (ws.map V.str)) ∧ ∀ H', Same H0 H' → D.rt (.str wd) H') :=
  PS_imp (ps_ret (pe_ix ix_list (pe_var hj hvj hdj hcdj) (pe_bm PySem.F.plainAttrs_list PySem.F.slot_list_index PySem.F.type_list_index mt_index (pe_var hi hv hd hcd) (pa_cons pe_bl pa_nil hst) hbase hfew hline hst rfl) (fun _ _ => rfl))) fun D σ H ⟨⟨w, L, g1, g2⟩, k⟩ => by
    obtain ⟨l, h1, h2⟩ := w.l
    refine ⟨_, g1, _, h1, .inl ⟨rfl, _, h2.sq⟩, l, fl.map V.bl, .bl true, m, .bl true, rfl, rfl, h2.sq, rfl, ?_, by rw [List.getElem?_map, hm]; rfl, rfl, fun m' z' hlt hz => ?_, L, ws.map V.str, m, .str wd, rfl, rfl, g2.sq, atI_nat (by rw [List.getElem?_map, hw]; rfl), k _ w.s⟩
    · rw [List.all_eq_true]
      intro v hv
      obtain ⟨b, _, rfl⟩ := List.mem_map.mp hv
      rfl
    · rw [List.getElem?_map, hb m' hlt] at hz
      cases hz
      rfl
end
end PL
/-! PL, part z: the word of an exception, told by a def; try. -/
namespace PL
open PySem PySem.Spec PyProof.Rows L2 L2H

/-- a def of one parameter px that tells of the handled exception a word: by its class's number -/
structure FnW (P : Program) (w : World) (K : PySem.W.Frag) (mg : Str → Option Value) (base : Heap) (k : Nat) (f : Addr) (fd : FuncData) (px : Str) (ec : Nat → Addr) (wd : Nat → Option Str) : Prop where
  run : ∀ (A : Around) (outer : List Env) (s : Shared) (H : Hp) (args : Args) (Q : VK) (E : XK) (p : Addr × Obj) (c : Nat) (z : Str), RoomH k A → Hot1 A p → PinOk outer H s p → L2N.Zn (.ref (ec c)) none p.2 → Env0 P w K mg base A outer s H → BindsTo s fd args [(px, .ref p.1)] →
    wd c = some z → (∀ H', Same H H' → Q (.str z) H') → codeAny (model P w) A (.call (.ref f) args) (CR (L2N.CX P w) outer P w H s Q E) s
section
variable {P : Program} {w : World} {K : PySem.W.Frag} {mg : Str → Option Value} {base : Heap}
theorem fn_word {ec : Nat → Addr} {x qual px : Str} {st : Stmt} {f : Addr} {fd : FuncData} {N : List Str} {k : Nat} {wd : Nat → Option Str} (F : Fun K x qual st f fd) (S : FnScope N [px] (defScope st))
    (hbody : ∀ (cdv : Value) (A : Around) (outer : List Env) (s : Shared) (H : Hp) (E : XK) (p : Addr × Obj) (c : Nat) (z : Str), Hot1 A p → RoomH k (A.deeper (envOfC qual (defScope st) s.heap.objs.size f cdv)) → wd c = some z → Zc (.ref (ec c)) none p.2 → (∃ vs, p.2.data = .fields vs) →
      ∃ t, PSs (cxH (L2N.CX P w) P w K mg base N qual (defScope st) f cdv A outer s H E p) (defBody st) t ∧ ∀ D : Ends, (∀ H', Same H H' → D.rt (.str z) H') → t D (start N [.ref p.1]) H) :
    FnW P w K mg base (k + 1) f fd px ec wd := by
  obtain ⟨oc, od, kV, doc, pm, an, cdv, ct, osl, rfl, lk, hcd⟩ := F.ex
  refine ⟨fun A outer s H args Q E p c z hr hot hpin hz e0 hb hwd hq => ?_⟩
  have KX : K.In s.heap := e0.mod.kin.keeps fun b o e => (e0.bs b o e).1
  have lim : s.heap.NoLimit := e0.mod.nolimit.keeps fun b o e => (e0.bs b o e).1
  have hkind : ∀ y ∈ [px].zip [Value.ref p.1], (defScope st).names.lookup y.1 = some .local ∨ ((defScope st).names.lookup y.1 = some .cell ∧ ((cellsFrom (s.heap.objs.size + 1) (defScope st).names []).lookup y.1).isSome = true) := fun y hy =>
    (S.par y.1 (List.of_mem_zip hy).1).elim .inl fun q => .inr ⟨q, PySem.W.cellsFrom_some _ _ _ (.inl q)⟩
  refine codeAny_call_function hr.depth (KX _ _ lk) rfl S.co S.gen rfl (PySem.W.codeRec_of KX hcd) (hb _ _ _ _ ?_)
  refine wpAny_newFunctionEnv_cells S.kind hkind fun env he s1 x => ?_
  subst he
  refine ⟨lim.keeps x.toInCall.keep, codeAny_func ?_⟩
  obtain ⟨vs, hvs, _⟩ := hot.2
  obtain ⟨t, ht, hw⟩ := hbody cdv A outer s H E p c z hot (hr.deeper _) hwd hz.zc ⟨vs, hvs⟩
  have I := inv_startH (CX := L2N.CX P w) (E := E) (us := [.ref p.1]) (vs := [.ref p.1]) S hpin e0 rfl (.cons rfl .nil) x
  refine wpAny_mono (ht.run [] s1 _ H { nx := fun _ H' => Q .non H', rt := Q } I (hw _ hq)) (fun fl s' hs => ?_) fun e s' hs => hs
  cases fl with
  | ret u => obtain ⟨v, σ', H', J, rv, q⟩ := hs; exact ⟨v, H', J.os, J.bare, J.base, J.hok, rv, q⟩
  | next => obtain ⟨σ', H', J, q⟩ := hs; exact ⟨.non, H', J.os, J.bare, J.base, J.hok, rfl, q⟩
  | brk => obtain ⟨_, _, _, q⟩ := hs; exact q.elim
  | cont => obtain ⟨_, _, _, q⟩ := hs; exact q.elim
end
/-- the def by its name -/
structure CalW (P : Program) (w : World) (K : PySem.W.Frag) (mg : Str → Option Value) (base : Heap) (ec : Nat → Addr) (x : Str) (k : Nat) (wd : Nat → Option Str) : Prop where
  ex : ∃ (f : Addr) (fd : FuncData) (px : Str), FnW P w K mg base k f fd px ec wd ∧ mg x = some (.ref f) ∧ PySem.W.keepIn K (.ref f) = true ∧ Binds K fd [px] []
theorem FnW.mono {P : Program} {w : World} {K : PySem.W.Frag} {mg : Str → Option Value} {base : Heap} {j k : Nat} {f : Addr} {fd : FuncData} {px : Str} {ec : Nat → Addr} {wd : Nat → Option Str} (F : FnW P w K mg base j f fd px ec wd) (h : j ≤ k) : FnW P w K mg base k f fd px ec wd :=
  ⟨fun A outer s H args Q E p c z hr => F.run A outer s H args Q E p c z (hr.mono h)⟩
def tWd (i : Nat) (a : Addr) (z : Str) : TE := fun σ H Q => σ[i]? = some (some (.ref a)) ∧ ∀ H', Same H H' → Q (.str z) H'
section
variable {X : Cx} {ec : Nat → Addr} {wd : Nat → Option Str} {k c i : Nat} {z x : Str} {p : Addr × Obj} {e : Expr} {q pos : Pos}
theorem pe_callW (C : CalW X.prog X.w X.K X.mg X.base ec x k wd) (hr : RoomH k X.A) (hp : p ∈ X.pn) (hot : Hot1 X.A p) (hz : L2N.Zn (.ref (ec c)) none p.2) (hwd : wd c = some z) (hg : Gl X x) (he : PE X e (tVar i)) (hdb : (x == ("__debug__" : Str)) = false := by decide)
    (hst : starEach [e] X.env = (false, eval e X.env) :: starEach [] X.env := by rfl) : PE X (.Call (.Name x q) [e] [] pos) (tWd i p.1 z) := by
  obtain ⟨f, fd, px, F, hm, hk, hb⟩ := C.ex
  refine ⟨fun pins s σ H Q I ⟨h0, qq⟩ => ?_⟩
  refine wpAny_Call_Name_kw (ld_glob I hg hm ?_ hdb)
  refine PySem.W.callWith_K (h₀ := X.base) I.ok.mod.kin hk (thn ((pa_cons he pa_nil hst).run pos pins s σ H (fun vs H1 => vs = [V.ref p.1] ∧ H = H1) I ⟨_, h0, rfl, rfl⟩) fun us s1 ⟨vs, H1, I1, r, ev, eH⟩ => ⟨I1.kIn, ?_⟩) hst rfl
  subst ev
  rw [← eH] at I1
  rw [Vals.ref1 r]
  have P1 := I1.pin p (List.mem_append_left _ hp)
  have hpin : PinOk X.stack H s1 p := ⟨P1.1, P1.2.1, fun hm => (List.mem_cons.mp (I1.stkSub p.1 hm)).elim P1.2.2.1 P1.2.2.2.1, P1.2.2.2.2⟩
  have b := hb s1 [.ref p.1] I1.kIn rfl
  refine wpAny_call (codeAny_mono (F.run X.A X.stack s1 H ⟨[.ref p.1], []⟩ Q (fun _ _ _ => False) p c z hr hot hpin hz I1.env0 b hwd qq) fun r s' hq => ?_)
  cases r with
  | error e =>
    obtain ⟨_, _, _, _, _, _, _, _, _, _, _, _, zz⟩ := hq
    exact zz.elim
  | ok fl =>
    cases fl with
    | ret u => exact I1.after hq
    | next => exact hq.elim
    | brk => exact hq.elim
    | cont => exact hq.elim
end

/-! ### try: .. except X as e: return word(e) -/
def sTry (wd : Nat → Option Str) (fb : SF) (env : Ev) : Out := match fb env with
  | .ex c => match wd c with
    | some z => .rt (.str z)
    | none => .no
  | o => o
section
variable {X : Cx} {ec : Nat → Addr} {W : WX} {G0 H0 : Hp} {wd : Nat → Option Str} {k i : Nat} {x xe n : Str} {cT : Addr} {body : List Stmt} {fb : SF} {np q1 q2 q3 q4 pos pos' : Pos}
theorem ss_try (i0 : Same G0 H0) (C : CalW X.prog X.w X.K X.mg X.base ec x k wd) (hr : Room k X.A) (tk : L2N.Takes X W) (hs : X.stack = X.env :: X.outer) (hf : X.env.frame = some X.env.locals) (hN : X.N.Nodup) (hi : X.N[i]? = some n) (hln : X.env.kindOf n = some .local) (hgx : Gl X x) (hge : Gl X xe) (hme : X.mg xe = some (.ref cT))
    (hex : ∀ c z, wd c = some z → PySem.W.exmOne X.K (.ref (ec c)) (.ref cT) = some true)
    (hb : ∀ (W' : WX) (pn : List (Addr × Obj)) (xx : Value → Shared → Prop), L2N.Takes (X.tr pn xx) W' → PassesOwn (model X.prog X.w) X.A X.env xx → PSs (X.tr pn xx) body (tDS X.K ec W' G0 H0 fb))
    (hv : Vis X.env.scope n) (hd : (n == ("__debug__" : Str)) = false := by decide) (hcd : (n == ("__classdict__" : Str)) = false := by decide) (hdx : (x == ("__debug__" : Str)) = false := by decide) (hde : (xe == ("__debug__" : Str)) = false := by decide)
    (hst : starEach [.Name n q2] X.env = (false, eval (.Name n q2) X.env) :: starEach [] X.env := by rfl) :
    PS X (.Try body [.ExceptHandler (some (.Name xe np)) (some n) [.Return (some (.Call (.Name x q1) [.Name n q2] [] q3)) q4] pos'] [] [] pos) (tDS X.K ec W G0 H0 (sTry wd fb)) := by
  have hsu : ∀ (a : Addr) (oe : Obj) (cls : Value) (d : Option Addr) (pn : List (Addr × Obj)), L2N.Zn cls d oe → (∃ vs, oe.data = .fields vs) → PSs (X.suite a ((a, oe) :: pn)) [.Return (some (.Call (.Name x q1) [.Name n q2] [] q3)) q4]
      (fun D σ H => (∃ σ0 : L2.St, σ = σ0.set i (some (.ref a))) ∧ ∃ c z, cls = .ref (ec c) ∧ d = none ∧ wd c = some z ∧ ∀ H', Same H H' → D.rt (.str z) H') := by
    intro a oe cls d pn hz hff
    refine ⟨fun pins s σ H D I h => ?_⟩
    obtain ⟨⟨σ0, e0⟩, c, z, rfl, rfl, hwd, q⟩ := h
    obtain ⟨vs, hvs⟩ := hff
    have hot : Hot1 (X.suite a ((a, oe) :: pn)).A (a, oe) := ⟨rfl, vs, hvs, hz.2.2 vs hvs⟩
    have rh : RoomH k (X.suite a ((a, oe) :: pn)).A := ⟨hr.dp, hr.un⟩
    refine (pss_one (ps_ret (pe_callW (X := X.suite a ((a, oe) :: pn)) (p := (a, oe)) C rh List.mem_cons_self hot hz hwd hgx (pe_var (X := X.suite a ((a, oe) :: pn)) hi hv hd hcd) hdx hst))).run pins s σ H D I ⟨?_, q⟩
    subst e0
    refine List.getElem?_set_self ?_
    have := I.len
    rw [List.length_set] at this
    rw [this]
    exact (List.getElem?_eq_some_iff.mp hi).1
  refine PS_imp (L2N.ps_try_as (np := np) (pos := pos) (pos' := pos') hs hf hN hi hln ⟨hge, hde, .inl hme⟩ tk (tb := fun W' => tDS X.K ec W' G0 H0 fb) hb hsu) fun D σ H ⟨G, env, S, p⟩ => ⟨G, env, S, ?_⟩
  unfold sTry at p
  cases q : fb env with
  | nx e => rw [q] at p; exact p
  | rt d => rw [q] at p; exact p
  | bk e => rw [q] at p; exact p
  | ct e => rw [q] at p; exact p
  | no => rw [q] at p; exact p
  | ex c =>
    rw [q] at p
    dsimp only at p
    cases qw : wd c with
    | none => rw [qw] at p; exact p.elim
    | some z =>
      rw [qw] at p
      intro σ' H' hH
      refine ⟨true, hex c z qw, fun _ a na => ⟨⟨σ', rfl⟩, c, z, rfl, rfl, qw, fun H2 s2 => ?_⟩, fun z => nomatch z⟩
      exact p _ G0 H2 (Ext.heap i0 (hH.trans s2)) (.str z)
end
end PL
/-! PL, part l: in, not in, index, pop, sums of lists that are owned. -/
namespace PL
open PySem PySem.Spec PyProof.Rows L2

/-! ### isinstance of exceptions -/
theorem kit_self {K : PySem.W.Frag} {D : Addr} : PySem.W.kitOne K (.ref D) (.ref D) = some true := by
  unfold PySem.W.kitOne
  rw [if_pos (beq_self_eq_true _)]
theorem kit_other {K : PySem.W.Frag} {C D : Addr} (n : (D == C) = false) (h : PySem.W.hasDictIn K C = true) (t : PySem.W.typeIn K (.ref C) = some (.type "type")) (s : PySem.W.subIn K (.ref D) (.ref C) = some false) : PySem.W.kitOne K (.ref D) (.ref C) = some false := by
  obtain ⟨cd, hc, _⟩ := PySem.W.any_some h
  have e1 : ((PySem.W.clsIn K C).isSome && PySem.W.typeIn K (.ref C) == some (.type "type")) = true := by rw [hc, t] <;> rfl
  have e2 : ¬ ((Value.ref D == Value.ref C) = true) := fun z => by
    have e := Value.ref.inj (beq_iff_eq.mp z)
    rw [e] at n
    simp at n
  unfold PySem.W.kitOne PySem.W.kitCls
  rw [if_neg e2]
  dsimp only
  rw [if_pos e1]
  exact s
theorem kit_ve {K : PySem.W.Frag} {D : Addr} (s : PySem.W.subIn K (.ref D) (.type "ValueError") = some true) : PySem.W.kitOne K (.ref D) (.type "ValueError") = some true := by
  have e2 : ¬ ((Value.ref D == Value.type "ValueError") = true) := fun z => by
    have e := beq_iff_eq.mp z
    cases e
  have e1 : PySem.W.kitMeta "ValueError" = true := by decide +kernel
  unfold PySem.W.kitOne PySem.W.kitCls
  rw [if_neg e2]
  dsimp only
  rw [if_pos e1]
  exact s

/-! ### a datum is like itself -/
mutual
theorem eqv_refl : ∀ d : PyData, d.canLay0 = true → PyData.eqv d d = true
  | .none, _ => by simp [PyData.eqv]
  | .bool b, _ => by simp [PyData.eqv]
  | .int i, _ => by simp [PyData.eqv]
  | .str x, _ => by simp [PyData.eqv]
  | .list xs, h => by
    simp only [PyData.eqv]
    exact eqvAll_refl xs (by simpa [PyData.canLay0] using h)
  | .tuple xs, h => by
    simp only [PyData.eqv]
    exact eqvAll_refl xs (by simpa [PyData.canLay0] using h)
  | .dict _, h => by simp [PyData.canLay0] at h
theorem eqvAll_refl : ∀ ds : List PyData, PyData.canLayAll0 ds = true → PyData.eqvAll ds ds = true
  | [], _ => by simp [PyData.eqvAll]
  | d :: ds, h => by
    simp only [PyData.canLayAll0, Bool.and_eq_true] at h
    simp only [PyData.eqvAll, Bool.and_eq_true]
    exact ⟨eqv_refl d h.1, eqvAll_refl ds h.2⟩
end
theorem canLay_sh {d : PyData} (h : SeqAt.shaped d = true) : d.canLay0 = true := SeqAt.canLay_of_shaped h
theorem dEq_self {d : PyData} (h : SeqAt.shaped d = true) : dEq d d = .ok (.bool true) := by rw [dEq_shp h h, eqv_refl d (canLay_sh h)]
theorem dNe_self {d : PyData} (h : SeqAt.shaped d = true) : dNe d d = .ok (.bool false) := by rw [dNe_shp h h, eqv_refl d (canLay_sh h)]; rfl

theorem szl_big {n : Nat} (h : n ≤ 900000) : n < szl := Nat.lt_of_le_of_lt h (by decide)
theorem dAdd_list {a b : List PyData} (h : a.length + b.length ≤ 900000) : dAdd (.list a) (.list b) = .ok (.list (a ++ b)) := if_pos (Nat.le_of_lt (szl_big h))
theorem dAdd_tuple {a b : List PyData} (h : a.length + b.length ≤ 900000) : dAdd (.tuple a) (.tuple b) = .ok (.tuple (a ++ b)) := if_pos (Nat.le_of_lt (szl_big h))

/-! ### in -/
def anyEq (x : PyData) (ds : List PyData) : Bool := ds.any fun z => PyData.eqv z x
def dIn (x y : PyData) : R PyData := match y with
  | .list ds => if SeqAt.shaped x = true ∧ SeqAt.shaped (.list ds) = true then .ok (.bool (anyEq x ds)) else .no
  | .tuple ds => if atomic x = true ∧ ds.all atomic = true then .ok (.bool (anyEq x ds)) else .no
  | _ => .no
def dNotIn (x y : PyData) : R PyData := match y with
  | .list ds => if SeqAt.shaped x = true ∧ SeqAt.shaped (.list ds) = true then .ok (.bool (!anyEq x ds)) else .no
  | _ => .no
theorem atomic_flat {K : PySem.W.Frag} {G : Hp} {v : V} {d : PyData} (r : Rep K G v d) (a : atomic d = true) : flatV v = true := by
  cases r with
  | non => rfl
  | bl b => rfl
  | int i => rfl
  | str x => rfl
  | _ => cases a
theorem atomic_eq {K : PySem.W.Frag} {G : Hp} {v w : V} {d e : PyData} (r : Rep K G v d) (s : Rep K G w e) (a : atomic d = true) (b : atomic e = true) : eqV v w = PyData.eqv d e := by
  cases r <;> first | (cases a; done) | skip
  all_goals (cases s <;> first | (cases b; done) | skip)
  all_goals simp [eqV, PyData.eqv]
theorem atomic_all {K : PySem.W.Frag} {G : Hp} : ∀ {vs : List V} {ds : List PyData}, RepA K G vs ds → ds.all atomic = true → vs.all flatV = true
  | _, _, .nil, _ => rfl
  | _, _, .cons h r, a => by
    rw [List.all_cons, Bool.and_eq_true] at a
    rw [List.all_cons, atomic_flat h a.1, atomic_all r a.2]
    rfl
theorem inV_eq {K : PySem.W.Frag} {G : Hp} {x : V} {dx : PyData} (r : Rep K G x dx) (ha : atomic dx = true) : ∀ {vs : List V} {ds : List PyData}, RepA K G vs ds → ds.all atomic = true → inV x vs = anyEq dx ds
  | _, _, .nil, _ => rfl
  | _, _, .cons h t, a => by
    rw [List.all_cons, Bool.and_eq_true] at a
    have ih := inV_eq r ha t a.2
    unfold inV anyEq at ih ⊢
    rw [List.any_cons, List.any_cons, ih, atomic_eq h r a.1 ha]
section
variable {X : Cx} {K : PySem.W.Frag} {ec : Nat → Addr} {W : WX} {a b : Expr} {fa fb : EF} {pos : Pos}
theorem op_inP (hu : X.A.units + 65 < cLine) : OpR X (compareOp .In) (fun x y H Q => rInD X.K x y H Q ∨ rIn X.K false x y H Q) := (op_inD hu).or op_in_seq
theorem od_in : OpD K (fun x y H Q => rInD K x y H Q ∨ rIn K false x y H Q) dIn := by
  intro x y dx dy d G H Q i rx ry h q
  cases ry with
  | @lst l ys es hl r =>
    unfold dIn at h
    dsimp only at h
    split at h
    · rename_i hs
      cases h
      exact .inl ⟨dx, es, (rx.mono i).dp (SeqAt.canLay_of_shaped hs.1), (Rep.mono i (.lst hl r)).dp (SeqAt.canLay_of_shaped hs.2), hs.1, hs.2, q _ G H (Ext.refl i) (.bl _)⟩
    · cases h
  | @tup l ys es hl r =>
    unfold dIn at h
    dsimp only at h
    split at h
    · rename_i hs
      cases h
      refine .inr ⟨l, ys, rfl, .inr (sqT_same i hl), atomic_flat rx hs.1, atomic_all r hs.2, ?_⟩
      rw [if_neg Bool.false_ne_true, inV_eq rx hs.1 r hs.2]
      exact q _ G H (Ext.refl i) (.bl _)
    · cases h
  | _ => cases h
theorem nx_in : NoEx dIn := by
  intro x y c h
  unfold dIn at h
  split at h
  · split at h <;> cases h
  · split at h <;> cases h
  · cases h
theorem od_notIn : OpD K (rNotInD K) dNotIn := by
  intro x y dx dy d G H Q i rx ry h q
  cases ry with
  | @lst l ys es hl r =>
    unfold dNotIn at h
    dsimp only at h
    split at h
    · rename_i hs
      cases h
      exact ⟨dx, es, (rx.mono i).dp (SeqAt.canLay_of_shaped hs.1), (Rep.mono i (.lst hl r)).dp (SeqAt.canLay_of_shaped hs.2), hs.1, hs.2, q _ G H (Ext.refl i) (.bl _)⟩
    · cases h
  | _ => cases h
theorem nx_notIn : NoEx dNotIn := by
  intro x y c h
  unfold dNotIn at h
  split at h
  · split at h <;> cases h
  · cases h
theorem se_in (hu : X.A.units + 65 < cLine) (ha : PE X a (tD X.K ec W fa)) (hb : PE X b (tD X.K ec W fb)) (hm : behindInMarks .In b = false := by rfl) : PE X (.Compare a [.In] [b] pos) (tD X.K ec W (eBin dIn fa fb)) := se_cmp (op_inP hu) od_in nx_in ha hb hm
theorem st_in (hu : X.A.units + 65 < cLine) (ha : PE X a (tD X.K ec W fa)) (hb : PE X b (tD X.K ec W fb)) (hm : behindInMarks .In b = false := by rfl) : PT X (.Compare a [.In] [b] pos) (tDT X.K ec W (bVal (eBin dIn fa fb))) := st_cmp (op_inP hu) od_in nx_in ha hb hm
theorem se_notIn (hu : X.A.units + 65 < cLine) (ha : PE X a (tD X.K ec W fa)) (hb : PE X b (tD X.K ec W fb)) (hm : behindInMarks .NotIn b = false := by rfl) : PE X (.Compare a [.NotIn] [b] pos) (tD X.K ec W (eBin dNotIn fa fb)) := se_cmp (op_notInD hu) od_notIn nx_notIn ha hb hm
theorem st_notIn (hu : X.A.units + 65 < cLine) (ha : PE X a (tD X.K ec W fa)) (hb : PE X b (tD X.K ec W fb)) (hm : behindInMarks .NotIn b = false := by rfl) : PT X (.Compare a [.NotIn] [b] pos) (tDT X.K ec W (bVal (eBin dNotIn fa fb))) := st_cmp (op_notInD hu) od_notIn nx_notIn ha hb hm
end

/-! ### a sum of two lists, new -/
theorem PostN.bind {K : PySem.W.Frag} {ec : Nat → Addr} {W : WX} {σ : L2.St} {G H : Hp} {Q Q' : VK} {r : R PyData} {k : PyData → R PyData} (h : PostN K ec W σ G H Q (r.bind k)) (hk : ∀ v d G' H', r = .ok d → Ext G H G' H' → Rep K G' v d → PostN K ec W σ G' H' Q (k d) → Q' v H') : Post K ec W σ G H Q' r := by
  cases r with
  | ok d => exact fun v G' H' e p => hk v d G' H' rfl e p (PostN.mono e h)
  | ex c => exact h
  | no => exact h
def dAddL (x y : PyData) : R PyData := match x, y with
  | .list a, .list b => if a.length + b.length < szl then .ok (.list (a ++ b)) else .no
  | _, _ => .no
section
variable {X : Cx} {ec : Nat → Addr} {W : WX} {G0 H0 : Hp} {a b tg : Expr} {fa fb : EF} {pos p apos cpos : Pos} {i : Nat} {x : Str} {g : GF}
theorem sn_add (ha : PE X a (tD X.K ec W fa)) (hb : PE X b (tD X.K ec W fb)) : PE X (.BinOp a .Add b pos) (tDN X.K ec W (eBin dAddL fa fb)) :=
  PE_imp (pe_op op_catR ha hb) fun σ H Q ⟨G, env, s, E, p⟩ => ⟨G, env, s, E, PostN.bind p fun v d G1 H1 _ e1 r1 p1 => ⟨G1, env, e1.i, E.mono e1.g, PostN.bind p1 fun w d2 G2 H2 _ e2 r2 p2 => by
    cases r1 with
    | @lst l xs ds hl r =>
      cases r2 with
      | @lst m zs es hm r' =>
        unfold dAddL at p2
        dsimp only at p2
        split at p2
        · rename_i hz
          have rr := r.mono e2.g
          exact ⟨l, m, xs, zs, rfl, rfl, ls_same (e2.g.trans e2.i) hl, ls_same e2.i hm, szl_line (by rw [rr.length, r'.length]; exact Nat.le_of_lt hz), fun q nq => p2 q G2 _ (Ext.heap e2.i (same_new nq)) nq (e2.i.free nq) (own_new (rr.append r'))⟩
        · exact p2.elim
      | _ => exact p2.elim
    | _ => exact p2.elim⟩⟩

/-! ### target = xs.pop(), xs owned -/
def sPopT (i : Nat) (tg : GF) (env : Ev) : Out := match env[i]? with
  | some (.ow (.list ds)) => match ds.getLast? with
    | some d => match tg d (env.set i (.ow (.list ds.dropLast))) with
      | some e => .nx e
      | none => .no
    | none => .no
  | _ => .no
theorem RepA.dropLast {K : PySem.W.Frag} {G : Hp} {vs : List V} {ds : List PyData} (r : RepA K G vs ds) : RepA K G vs.dropLast ds.dropLast := by
  induction r using RepA.rec (motive_1 := fun _ _ _ => True) (motive_3 := fun _ _ _ => True) with
  | nil => exact .nil
  | @cons v d vs ds h r _ ih =>
    cases r with
    | nil => exact .nil
    | cons h2 r2 => exact .cons h ih
  | _ => trivial
theorem ss_popT (hg : PG X tg (tDG X.K G0 H0 g)) (hi : X.N[i]? = some x := by rfl) (hv : Vis X.env.scope x := by first | exact Or.inl rfl | exact Or.inr (Or.inl rfl) | exact Or.inr (Or.inr rfl)) (hd : (x == ("__debug__" : Str)) = false := by decide) (hcd : (x == ("__classdict__" : Str)) = false := by decide)
    (hline : (apos.endLine == cpos.line) = true := by rfl) (hs : swapsWithSole [tg] (.Call (.Attribute (.Name x p) "pop" apos) [] [] cpos) pos.line X.env = pure false := by rfl) (hw : swappedStores [tg] (.Call (.Attribute (.Name x p) "pop" apos) [] [] cpos) X.env = pure none := by rfl)
    (h1 : (assignEach [tg] X.env).map (·.2) = [assign tg X.env] := by rfl) :
    PS X (.Assign [tg] (.Call (.Attribute (.Name x p) "pop" apos) [] [] cpos) pos) (tDS X.K ec W G0 H0 (sPopT i g)) := by
  refine PS_imp (ps_asg (pe_bm0 PySem.F.plainAttrs_list PySem.F.slot_list_pop PySem.F.type_list_pop mt_pop (pe_var hi hv hd hcd) rfl hline) hg hs hw h1) fun D σ H ⟨G, env, S, pp⟩ => ?_
  unfold sPopT at pp
  split at pp
  · rename_i ds q
    split at pp
    · rename_i d hl
      split at pp
      · rename_i e hg'
        obtain ⟨l, e1, e2, e3, vs, e4, e5⟩ := S.ow i _ q
        have hlen := e5.length
        rw [List.getLast?_eq_getElem?] at hl
        obtain ⟨v, hv1, hv2⟩ := e5.get hl
        refine ⟨_, e1, .inl ⟨rfl, vs, SqL.of e4⟩, l, vs, v, rfl, rfl, e4, by rw [hlen]; exact hv1, ?_⟩
        have S' := S.mut (o := .lst vs.dropLast) (d' := .list ds.dropLast) q e1 ⟨_, upd_same, e5.dropLast⟩
        exact ⟨G, _, d, e, S', hv2, hg', fun σ' S2 => pp σ' G _ (Same.refl _) S2⟩
      · exact pp.elim
    · exact pp.elim
  · exact pp.elim
end
theorem dAddL_list {a b : List PyData} (h : a.length + b.length ≤ 900000) : dAddL (.list a) (.list b) = .ok (.list (a ++ b)) := if_pos (szl_big h)

/-! ### statement by statement -/
@[simp] theorem pur_pu {d : PyData} : (Sl.pu d).pur = some d := rfl
@[simp] theorem pur_ow {d : PyData} : (Sl.ow d).pur = none := rfl
@[simp] theorem pur_no : Sl.no.pur = none := rfl
@[simp] theorem full_pu {d : PyData} : (Sl.pu d).full = some d := rfl
@[simp] theorem full_ow {d : PyData} : (Sl.ow d).full = some d := rfl
@[simp] theorem full_no : Sl.no.full = none := rfl
theorem seq_nx {a b : SF} {env e : Ev} {r : Out} (h : a env = .nx e) (h2 : b e = r) : sSeq a b env = r := by
  unfold sSeq
  rw [h]
  exact h2
theorem seq_rt {a b : SF} {env : Ev} {d : PyData} (h : a env = .rt d) : sSeq a b env = .rt d := by
  unfold sSeq
  rw [h]
  rfl
end PL
namespace My
open PySem L2 PL
def top (i : Nat) : Stmt := PySem.Challenge.pw_tellweight_k30_watchers.main.body.getD i (.Pass ⟨0, 0, 0, 0⟩)
def wdL : Nat → Option Str := fun c => if c = 2 then some "BadSight" else none
abbrev s_is_count : Stmt := top 10
abbrev N_is_count : List Str := ["thing", "least", "most"]
abbrev s_is_form : Stmt := top 11
abbrev N_is_form : List Str := ["thing", "size"]
abbrev s_is_watcher : Stmt := top 16
abbrev N_is_watcher : List Str := ["thing", "deep"]
abbrev s_need_watcher : Stmt := top 17
abbrev N_need_watcher : List Str := ["watcher"]
abbrev s_seen : Stmt := top 18
abbrev N_seen : List Str := ["watcher", "trail", "steps", "word", "number"]
abbrev s__law_cell : Stmt := top 20
abbrev N__law_cell : List Str := ["script", "k"]
abbrev s__law_drawn : Stmt := top 21
abbrev N__law_drawn : List Str := ["cell", "k", "more"]
abbrev s__law_word : Stmt := top 22
abbrev N__law_word : List Str := ["e", "flags", "words", "flag"]
abbrev s__law_seen : Stmt := top 23
abbrev N__law_seen : List Str := ["watcher", "trail", "steps", "cut", "number"]
abbrev s__law_watcher : Stmt := top 24
abbrev N__law_watcher : List Str := ["script", "k", "deep", "more", "some"]
abbrev s__law_told : Stmt := top 25
abbrev N__law_told : List Str := ["thing", "e"]
abbrev s_law : Stmt := top 26
abbrev N_law : List Str := ["script", "k", "more", "watcher", "trail", "steps", "some", "odd", "deep", "j", "within", "left", "thing", "one", "far"]
def c_MOST_REST : PyData := (.int 999)
def c_MOST_FIRST : PyData := (.int 40)
def c_MOST_DEEP : PyData := (.int 4)
def fb_is_count : SF := (sRet (eAnd (eUn (dIsi "int") (eVar 0)) (eAnd (eNot (eUn (dIsi "bool") (eVar 0))) (eChain dLe dLe (eVar 1) (eVar 0) (eVar 2)))))
def g_is_count : List PyData → R PyData := runB 3 fb_is_count
def fb_is_form : SF := (sRet (eAnd (eUn (dIsi "tuple") (eVar 0)) (eAnd (eBin dEq (eCall gLen [(eVar 0)]) (eVar 1)) (eUn (dIsi "str") (eBin dIx (eVar 0) (eC (.int 0)))))))
def g_is_form : List PyData → R PyData := runB 2 fb_is_form
def fb_is_watcher (g_self : List PyData → R PyData) : SF := (sSeq (sIf (bVal (eCall g_is_form [(eVar 0), (eC (.int 1))])) (sRet (eBin dIn (eBin dIx (eVar 0) (eC (.int 0))) (eTup [(eC (.str "all")), (eC (.str "last")), (eC (.str "count")), (eC (.str "steps"))]))) sNil) (sSeq (sIf (bVal (eCall g_is_form [(eVar 0), (eC (.int 2))])) (sSeq (sIf (bVal (eBin dEq (eBin dIx (eVar 0) (eC (.int 0))) (eC (.str "rest")))) (sRet (eCall g_is_count [(eBin dIx (eVar 0) (eC (.int 1))), (eC (.int 1)), (eC c_MOST_REST)])) sNil) (sRet (eAnd (eBin dEq (eBin dIx (eVar 0) (eC (.int 0))) (eC (.str "first"))) (eCall g_is_count [(eBin dIx (eVar 0) (eC (.int 1))), (eC (.int 0)), (eC c_MOST_FIRST)])))) sNil) (sSeq (sIf (bOr (bNot (bVal (eCall g_is_form [(eVar 0), (eC (.int 3))]))) (bOr (bVal (eBin dNe (eBin dIx (eVar 0) (eC (.int 0))) (eC (.str "both")))) (bVal (eBin dEq (eVar 1) (eC c_MOST_DEEP))))) (sRet (eC (.bool false))) sNil) (sRet (eAnd (eCall g_self [(eBin dIx (eVar 0) (eC (.int 1))), (eBin dAdd (eVar 1) (eC (.int 1)))]) (eCall g_self [(eBin dIx (eVar 0) (eC (.int 2))), (eBin dAdd (eVar 1) (eC (.int 1)))]))))))
def g_is_watcher : Nat → List PyData → R PyData
  | 0 => fun _ => .no
  | n + 1 => runB 2 (fb_is_watcher (g_is_watcher n))
def fb_need_watcher : SF := (sIf (bNot (bVal (eCall (g_is_watcher 6) [(eVar 0), (eC (.int 1))]))) (sRaise 2) sNil)
def g_need_watcher : List PyData → R PyData := runB 1 fb_need_watcher
def fb_seen (g_self : List PyData → R PyData) : SF := (sSeq (sAsg .P 3 (eBin dIx (eVar 0) (eC (.int 0)))) (sSeq (sIf (bVal (eBin dEq (eVar 3) (eC (.str "both")))) (sRet (eTup [(eCall g_self [(eBin dIx (eVar 0) (eC (.int 1))), (eVar 1), (eVar 2)]), (eCall g_self [(eBin dIx (eVar 0) (eC (.int 2))), (eVar 1), (eVar 2)])])) sNil) (sSeq (sIf (bVal (eBin dEq (eVar 3) (eC (.str "all")))) (sRet (eVar 1)) sNil) (sSeq (sIf (bVal (eBin dEq (eVar 3) (eC (.str "last")))) (sRet (eSl (eVar 1) (some (eUn dNeg (eC (.int 1)))) none)) sNil) (sSeq (sIf (bVal (eBin dEq (eVar 3) (eC (.str "count")))) (sRet (eTup [(eCall gLen [(eVar 1)])])) sNil) (sSeq (sIf (bVal (eBin dEq (eVar 3) (eC (.str "steps")))) (sRet (eTup [(eVar 2)])) sNil) (sSeq (sIf (bVal (eBin dEq (eVar 3) (eC (.str "rest")))) (sRet (eCall gTuple [(eLc (cN 4) (iSeq (eVar 1)) bYes (eBin dMod (eVar 4) (eBin dIx (eVar 0) (eC (.int 1)))))])) sNil) (sRet (eSl (eVar 1) none (some (eBin dIx (eVar 0) (eC (.int 1)))))))))))))
def g_seen : Nat → List PyData → R PyData
  | 0 => fun _ => .no
  | n + 1 => runB 5 (fb_seen (g_seen n))
def fb__law_cell : SF := (sSeq (sIf (bVal (eBin dEq (eVar 0) (eLst []))) (sRet (eBin dMul (eVar 1) (eC (.int 7919)))) sNil) (sRet (eBin dAdd (eBin dIx (eVar 0) (eBin dMod (eVar 1) (eCall gLen [(eVar 0)]))) (eBin dMul (eBin dDiv (eVar 1) (eCall gLen [(eVar 0)])) (eC (.int 104729))))))
def g__law_cell : List PyData → R PyData := runB 2 fb__law_cell
def fb__law_drawn : SF := (sSeq (sAsg .P 2 (eBin dMod (eBin dAdd (eBin dMul (eVar 0) (eC (.int 6364136223846793005))) (eBin dMul (eBin dAdd (eVar 1) (eC (.int 1))) (eC (.int 1442695040888963407)))) (eC (.int 340282366920938463463374607431768211507)))) (sSeq (sAsg .P 2 (eBin dMod (eBin dMul (eVar 2) (eVar 2)) (eC (.int 340282366920938463463374607431768211297)))) (sSeq (sAsg .P 2 (eBin dMul (eBin dMul (eBin dAdd (eBin dMod (eVar 2) (eC (.int 18446744073709551557))) (eC (.int 1))) (eBin dAdd (eBin dDiv (eVar 2) (eC (.int 18446744073709551557))) (eC (.int 1)))) (eVar 2))) (sRet (eBin dMod (eVar 2) (eC (.int 340282366920938463463374607431768211507)))))))
def g__law_drawn : List PyData → R PyData := runB 3 fb__law_drawn
def fb__law_seen (g_self : List PyData → R PyData) : SF := (sSeq (sIf (bVal (eBin dEq (eBin dIx (eVar 0) (eC (.int 0))) (eC (.str "both")))) (sRet (eTup [(eCall g_self [(eBin dIx (eVar 0) (eC (.int 1))), (eVar 1), (eVar 2)]), (eCall g_self [(eBin dIx (eVar 0) (eC (.int 2))), (eVar 1), (eVar 2)])])) sNil) (sSeq (sIf (bVal (eBin dEq (eBin dIx (eVar 0) (eC (.int 0))) (eC (.str "rest")))) (sRet (eCall gTuple [(eLc (cN 4) (iSeq (eVar 1)) bYes (eBin dMod (eVar 4) (eBin dIx (eVar 0) (eC (.int 1)))))])) sNil) (sSeq (sAsg .P 3 (eDisp [("all", (eVar 1)), ("last", (eSl (eVar 1) (some (eCall gMax2 [(eC (.int 0)), (eBin dSub (eCall gLen [(eVar 1)]) (eC (.int 1)))])) none)), ("count", (eTup [(eCall gLen [(eVar 1)])])), ("steps", (eTup [(eVar 2)]))])) (sSeq (sIf (bVal (eBin dEq (eBin dIx (eVar 0) (eC (.int 0))) (eC (.str "first")))) (sRet (eSl (eVar 1) none (some (eBin dIx (eVar 0) (eC (.int 1)))))) sNil) (sRet (eBin dDIx (eVar 3) (eBin dIx (eVar 0) (eC (.int 0)))))))))
def g__law_seen : Nat → List PyData → R PyData
  | 0 => fun _ => .no
  | n + 1 => runB 5 (fb__law_seen (g__law_seen n))
def fb__law_watcher (g_self : List PyData → R PyData) : SF := (sSeq (sAsg .P 3 (eCall g__law_drawn [(eCall g__law_cell [(eVar 0), (eVar 1)]), (eBin dAdd (eVar 1) (eC (.int 9)))])) (sSeq (sIf (bAnd (bVal (eBin dGt (eVar 2) (eC (.int 0)))) (bVal (eBin dEq (eBin dMod (eVar 3) (eC (.int 5))) (eC (.int 0))))) (sRet (eTup [(eC (.str "both")), (eCall g_self [(eVar 0), (eBin dAdd (eBin dMul (eC (.int 3)) (eVar 1)) (eC (.int 1))), (eBin dSub (eVar 2) (eC (.int 1)))]), (eCall g_self [(eVar 0), (eBin dAdd (eBin dMul (eC (.int 3)) (eVar 1)) (eC (.int 2))), (eBin dSub (eVar 2) (eC (.int 1)))])])) sNil) (sSeq (sAsg .P 4 (eLst [(eTup [(eC (.str "all"))]), (eTup [(eC (.str "last"))]), (eTup [(eC (.str "count"))]), (eTup [(eC (.str "steps"))]), (eTup [(eC (.str "rest")), (eBin dAdd (eC (.int 1)) (eBin dMod (eBin dDiv (eVar 3) (eC (.int 64))) (eC (.int 5))))])])) (sSeq (sAsg .P 4 (eBin dAdd (eVar 4) (eLst [(eTup [(eC (.str "first")), (eBin dMod (eBin dDiv (eVar 3) (eC (.int 64))) (eC (.int 4)))])]))) (sRet (eBin dIx (eBin dAdd (eVar 4) (eLst [(eTup [(eC (.str "all"))]), (eTup [(eC (.str "rest")), (eC (.int 999))]), (eTup [(eC (.str "first")), (eC (.int 40))])])) (eBin dMod (eBin dDiv (eVar 3) (eC (.int 8))) (eC (.int 9)))))))))
def g__law_watcher : Nat → List PyData → R PyData
  | 0 => fun _ => .no
  | n + 1 => runB 5 (fb__law_watcher (g__law_watcher n))
def fb__law_told : SF := (sTry wdL (sRet (eCall g_need_watcher [(eVar 0)])))
def g__law_told : List PyData → R PyData := runB 2 fb__law_told
def lp_law_0 : SF := (sAsg .P 8 (eBin dIx (eLst [(eTup [(eC (.str "both")), (eTup [(eC (.str "all"))]), (eVar 8)]), (eTup [(eC (.str "both")), (eVar 8), (eTup [(eC (.str "steps"))])])]) (eBin dMod (eBin dDiv (eVar 2) (eBin dPow (eC (.int 2)) (eC (.int 14)))) (eC (.int 2)))))
def lp_law_1 : SF := (sSeq (sPopT 11 (gT [13, 14])) (sSeq (sAsg .P 10 (eCall gMax2 [(eVar 10), (eVar 14)])) (sIf (bVal (eBin dEq (eBin dIx (eVar 13) (eC (.int 0))) (eC (.str "both")))) (sFrz 11 (sOwn 11 (eBin dAddL (eVar 11) (eLst [(eTup [(eBin dIx (eVar 13) (eC (.int 1))), (eBin dAdd (eVar 14) (eC (.int 1)))]), (eTup [(eBin dIx (eVar 13) (eC (.int 2))), (eBin dAdd (eVar 14) (eC (.int 1)))])])))) sNil)))
def lp_law_2 : SF := (sIf (bVal (eBin dNe (eCall g__law_told [(eVar 12)]) (eC (.str "BadSight")))) (sRet (eC (.bool false))) sNil)
def lp_law_3 : SF := (sSeq (sAsg .P 2 (eCall g__law_drawn [(eCall g__law_cell [(eVar 0), (eVar 1)]), (eVar 1)])) (sSeq (sAsg .P 3 (eCall (g__law_watcher 5) [(eVar 0), (eVar 1), (eC (.int 3))])) (sSeq (sAsg .P 4 (eCall gTuple [(eLc (cN 9) (iCall rng1 [(eBin dMod (eVar 2) (eC (.int 7)))]) bYes (eBin dMod (eCall g__law_drawn [(eVar 2), (eVar 9)]) (eC (.int 1000))))])) (sSeq (sAsg .P 5 (eBin dMod (eBin dDiv (eVar 2) (eC (.int 8))) (eC (.int 50)))) (sSeq (sIf (bVal (eBin dIsNot (eCall g__law_told [(eVar 3)]) (eC .none))) (sRet (eC (.bool false))) sNil) (sSeq (sIf (bVal (eBin dNe (eCall (g_seen 5) [(eVar 3), (eVar 4), (eVar 5)]) (eCall (g__law_seen 5) [(eVar 3), (eVar 4), (eVar 5)]))) (sRet (eC (.bool false))) sNil) (sSeq (sAsg .P 6 (eLst [(eTup [(eC (.str "rest")), (eC (.int 0))]), (eTup [(eC (.str "rest")), (eC (.int 1000))]), (eTup [(eC (.str "rest")), (eC (.bool true))]), (eTup [(eC (.str "rest"))]), (eTup [(eC (.str "first")), (eUn dNeg (eC (.int 1)))])])) (sSeq (sAsg .P 6 (eBin dAdd (eVar 6) (eLst [(eTup [(eC (.str "first")), (eC (.int 41))]), (eTup [(eC (.str "first")), (eC (.str "2"))])]))) (sSeq (sAsg .P 6 (eBin dAdd (eVar 6) (eLst [(eTup [(eC (.str "all")), (eC (.int 1))]), (eTup [(eC (.str "none"))]), (eC (.str "all")), (eC .none), (eLst [(eC (.str "all"))]), (eTup []), (eTup [(eC (.str "both")), (eTup [(eC (.str "all"))])])]))) (sSeq (sAsg .P 6 (eBin dAdd (eVar 6) (eLst [(eTup [(eC (.str "both")), (eTup [(eC (.str "all"))]), (eC (.str "all"))]), (eC (.int 5))]))) (sSeq (sAsg .P 6 (eBin dAdd (eVar 6) (eLst [(eTup [(eC (.str "both")), (eTup [(eC (.str "all"))]), (eTup [(eC (.str "rest")), (eC (.int 0))])]), (eTup [(eC (.str "last")), (eTup [])])]))) (sSeq (sAsg .P 6 (eBin dAdd (eVar 6) (eLst [(eTup [(eC (.str "both")), (eTup [(eC (.str "all"))]), (eTup [(eC (.str "all"))]), (eTup [(eC (.str "all"))])]), (eTup [(eTup [(eC (.str "all"))])])]))) (sSeq (sAsg .P 7 (eBin dIx (eVar 6) (eBin dMod (eBin dDiv (eVar 2) (eC (.int 64))) (eCall gLen [(eVar 6)])))) (sSeq (sAsg .P 8 (eVar 3)) (sSeq (sFor (gN 9) (iCall rng1 [(eBin dMod (eBin dDiv (eVar 2) (eC (.int 4096))) (eC (.int 3)))]) lp_law_0) (sSeq (sAsg .P 10 (eC (.int 1))) (sSeq (sOwn 11 (eLst [(eTup [(eVar 8), (eC (.int 1))])])) (sSeq (sWhile 100 (bVal (eBin dNe (eVar 11) (eLst []))) lp_law_1) (sSeq (sIf (bVal (eBin dNe (eCall g__law_told [(eVar 8)]) (eBin dIx (eLst [(eC .none), (eC (.str "BadSight"))]) (eCall gInt [(eBin dGt (eVar 10) (eC (.int 4)))])))) (sRet (eC (.bool false))) sNil) (sFor (gN 12) (iSeq (eLst [(eVar 7), (eTup [(eC (.str "both")), (eVar 7), (eVar 3)]), (eTup [(eC (.str "both")), (eTup [(eC (.str "both")), (eTup [(eC (.str "all"))]), (eVar 7)]), (eTup [(eC (.str "last"))])])])) lp_law_2))))))))))))))))))))
def fb_law : SF := (sSeq (sFor (gN 1) (iCall rng1 [(eCall gMax2 [(eC (.int 1)), (eCall gMin2 [(eC (.int 6)), (eCall gLen [(eVar 0)])])])]) lp_law_3) (sRet (eC (.bool true))))
def g_law : List PyData → R PyData := runB 15 fb_law
structure Txt (K : PySem.W.Frag) (mg : Str → Option Value) (ec : Nat → Addr) : Prop where
  ValueError : mg "ValueError" = none
  bool : mg "bool" = none
  int : mg "int" = none
  isinstance : mg "isinstance" = none
  len : mg "len" = none
  max : mg "max" = none
  min : mg "min" = none
  range : mg "range" = none
  str : mg "str" = none
  sum : mg "sum" = none
  tuple : mg "tuple" = none
  c_MOST_DEEP : GlobD K mg "MOST_DEEP" c_MOST_DEEP
  c_MOST_FIRST : GlobD K mg "MOST_FIRST" c_MOST_FIRST
  c_MOST_REST : GlobD K mg "MOST_REST" c_MOST_REST
  x_BadSight : ExcD K mg ec "BadSight" 2
  m_TellError : mg "TellError" = some (.ref (ec 8))
  m_BadHouse : mg "BadHouse" = some (.ref (ec 0))
  m_BadProgram : mg "BadProgram" = some (.ref (ec 1))
  m_BadSight : mg "BadSight" = some (.ref (ec 2))
  m_BadTable : mg "BadTable" = some (.ref (ec 3))
  m_BadWeights : mg "BadWeights" = some (.ref (ec 4))
  m_NotPlain : mg "NotPlain" = some (.ref (ec 5))
  m_TooMany : mg "TooMany" = some (.ref (ec 6))
  e_BadSight : ExcC K (ec 2)
  i_BadSight_BadHouse : PySem.W.kitOne K (.ref (ec 2)) (.ref (ec 0)) = some false
  i_BadSight_BadProgram : PySem.W.kitOne K (.ref (ec 2)) (.ref (ec 1)) = some false
  i_BadSight_BadSight : PySem.W.kitOne K (.ref (ec 2)) (.ref (ec 2)) = some true
  i_BadSight_BadTable : PySem.W.kitOne K (.ref (ec 2)) (.ref (ec 3)) = some false
  i_BadSight_BadWeights : PySem.W.kitOne K (.ref (ec 2)) (.ref (ec 4)) = some false
  i_BadSight_NotPlain : PySem.W.kitOne K (.ref (ec 2)) (.ref (ec 5)) = some false
  i_BadSight_TooMany : PySem.W.kitOne K (.ref (ec 2)) (.ref (ec 6)) = some false
  v_BadSight : PySem.W.kitOne K (.ref (ec 2)) (.type "ValueError") = some true
  xm : ∀ c z, wdL c = some z → PySem.W.exmOne K (.ref (ec c)) (.ref (ec 8)) = some true
section
variable {P : Program} {w : World} {K : PySem.W.Frag} {mg : Str → Option Value} {base : Heap} {ec : Nat → Addr}
theorem sc__law_word : FnScope N__law_word ["e"] (defScope s__law_word) := ⟨rfl, rfl, rfl, by decide +kernel, rfl, by decide +kernel, by decide +kernel⟩
theorem ok__law_word {f : Addr} {fd : FuncData} (F : Fun K "_law_word" "_law_word" s__law_word f fd) (T : Txt K mg ec) : FnW P w K mg base 1 f fd "e" ec wdL :=
  fn_word F sc__law_word fun cdv A outer s H E p c z hot hr hwd hz hf => by
    unfold wdL at hwd
    split at hwd
    · rename_i hc; subst hc; cases hwd
      have h : HeldE (L2H.cxH (L2N.CX P w) P w K mg base N__law_word "_law_word" (defScope s__law_word) f cdv A outer s H E p) p (ec 2) := ⟨List.mem_cons_self, ⟨hot.1, hot.2⟩, T.e_BadSight, hz, hf⟩
      exact ⟨_, (pss_cons (sw_new (H0 := H) (n := 4) (i := 1) sc__law_word.nd (pa_isC (pe_isW h rfl T.isinstance rfl (Or.inl rfl) rfl (.own rfl T.m_BadHouse) T.i_BadSight_BadHouse) (pa_isC (pe_isW h rfl T.isinstance rfl (Or.inl rfl) rfl (.own rfl T.m_BadProgram) T.i_BadSight_BadProgram) (pa_isC (pe_isW h rfl T.isinstance rfl (Or.inl rfl) rfl (.own rfl T.m_BadSight) T.i_BadSight_BadSight) pa_isN))) rfl (Or.inl rfl) (by decide) (by decide) (by decide)) (pss_cons (sw_more (H0 := H) (n := 4) (i := 1) sc__law_word.nd (pa_isC (pe_isW h rfl T.isinstance rfl (Or.inl rfl) rfl (.own rfl T.m_BadTable) T.i_BadSight_BadTable) pa_isN) rfl (Or.inl rfl) (Or.inl rfl) (by decide) (by decide) (by decide)) (pss_cons (sw_more (H0 := H) (n := 4) (i := 1) sc__law_word.nd (pa_isC (pe_isW h rfl T.isinstance rfl (Or.inl rfl) rfl (.own rfl T.m_BadWeights) T.i_BadSight_BadWeights) (pa_isC (pe_isW h rfl T.isinstance rfl (Or.inl rfl) rfl (.own rfl T.m_NotPlain) T.i_BadSight_NotPlain) (pa_isC (pe_isW h rfl T.isinstance rfl (Or.inl rfl) rfl (.own rfl T.m_TooMany) T.i_BadSight_TooMany) pa_isN))) rfl (Or.inl rfl) (Or.inl rfl) (by decide) (by decide) (by decide)) (pss_cons (sw_if (H0 := H) (n := 4) (i := 1) (c := 3) (own := [("flag", 3)]) h sc__law_word.nd rfl (Or.inl rfl) rfl (by decide) (by decide) (by decide) ⟨rfl, T.sum⟩ (fun _ _ _ _ _ => rfl) T.int (blkOk_by (N := N__law_word) (sc := defScope s__law_word) (by decide +kernel)) rfl (fun _ _ _ _ _ => pg_name (i := 3) sc__law_word.nd rfl (Or.inl rfl)) (fun _ _ _ _ _ => pe_var rfl (Or.inl rfl)) (pe_isW h rfl T.isinstance rfl (Or.inl rfl) rfl (.blt rfl T.ValueError (by decide +kernel)) T.v_BadSight) (pss_one (ps_ret pe_str)) (by decide)) (pss_cons (sw_words (H0 := H) (n := 4) (i := 1) (j := 2) sc__law_word.nd (pa_strC (pa_strC (pa_strC (pa_strC (pa_strC (pa_strC (pa_strC pa_strN))))))) rfl (Or.inl rfl) (by decide) (by decide) (by decide) (by decide)) (pss_one (sw_ret (p := p) (H0 := H) (n := 4) (i := 1) (j := 2) (m := 2) (fl := [false, false, true, false, false, false, false]) (ws := ["BadHouse", "BadProgram", "BadSight", "BadTable", "BadWeights", "NotPlain", "TooMany"]) rfl (Or.inl rfl) rfl (Or.inl rfl) rfl (fun m hm => match m, hm with | 0, _ => rfl | 1, _ => rfl) rfl))))))), fun D hD => ⟨⟨rfl, rfl, Same.refl _⟩, fun _ _ w1 => ⟨w1, fun _ _ w2 => ⟨w2, fun _ _ w3 => ⟨w3, fun _ _ w4 => ⟨w4, fun _ _ w5 => ⟨w5, hD⟩⟩⟩⟩⟩⟩⟩
    · cases hwd
theorem sc_is_count : FnScope N_is_count ["thing", "least", "most"] (defScope s_is_count) := ⟨rfl, rfl, rfl, by decide +kernel, rfl, by decide +kernel, by decide +kernel⟩
theorem ok_is_count {f : Addr} {fd : FuncData} (F : Fun K "is_count" "is_count" s_is_count f fd) (T : Txt K mg ec)  : FnOk P w K mg base (L2N.CX P w) 1 f fd ["thing", "least", "most"] (spP K ec 3 g_is_count) :=
  fn_pure F sc_is_count rfl fun cdv A outer s G0 H E i0 hr => by
    have hu := hr.units; have hu1 := hu_of hr; have hu0 := hr.units0; have hu65 := units65 hr
    exact (ss_one (ss_ret (se_and (se_isi rfl T.isinstance (se_var 0) rfl T.int (by decide +kernel)) (se_and (se_not (se_isi rfl T.isinstance (se_var 0) rfl T.bool (by decide +kernel))) (se_one (se_lele (se_var 1) (se_var 0) (se_var 2)))))))
theorem sc_is_form : FnScope N_is_form ["thing", "size"] (defScope s_is_form) := ⟨rfl, rfl, rfl, by decide +kernel, rfl, by decide +kernel, by decide +kernel⟩
theorem ok_is_form {f : Addr} {fd : FuncData} (F : Fun K "is_form" "is_form" s_is_form f fd) (T : Txt K mg ec)  : FnOk P w K mg base (L2N.CX P w) 1 f fd ["thing", "size"] (spP K ec 2 g_is_form) :=
  fn_pure F sc_is_form rfl fun cdv A outer s G0 H E i0 hr => by
    have hu := hr.units; have hu1 := hu_of hr; have hu0 := hr.units0; have hu65 := units65 hr
    exact (ss_one (ss_ret (se_and (se_isi rfl T.isinstance (se_var 0) rfl T.tuple (by decide +kernel)) (se_and (se_eq hu (se_len rfl T.len (sa_cons (se_var 0) sa_nil)) (se_var 1)) (se_one (se_isi rfl T.isinstance (se_at (se_var 0) se_int) rfl T.str (by decide +kernel)))))))
theorem sc_is_watcher : FnScope N_is_watcher ["thing", "deep"] (defScope s_is_watcher) := ⟨rfl, rfl, rfl, by decide +kernel, rfl, by decide +kernel, by decide +kernel⟩
theorem ok_is_watcher {f : Addr} {fd : FuncData} (F : Fun K "is_watcher" "is_watcher" s_is_watcher f fd) (T : Txt K mg ec) (C_is_count : Cal P w K mg base ec "is_count" 3 1 g_is_count) (C_is_form : Cal P w K mg base ec "is_form" 2 1 g_is_form) (m : mg "is_watcher" = some (.ref f)) (b : Binds K fd ["thing", "deep"] []) (n : Nat) : FnOk P w K mg base (L2N.CX P w) (1 + n) f fd ["thing", "deep"] (spP K ec 2 (g_is_watcher n)) := by
  induction n with
  | zero => exact fn_no rfl fun _ => rfl
  | succ n ih =>
    have C_is_watcher : Cal P w K mg base ec "is_watcher" 2 (1 + n) (g_is_watcher n) := cal_of F m b ih
    exact fn_pure (k := 1 + n) F sc_is_watcher rfl fun cdv A outer s G0 H E i0 hr => by
      have hu := hr.units; have hu1 := hu_of hr; have hu0 := hr.units0; have hu65 := units65 hr
      exact (ss_cons (ss_if (st_val (se_call C_is_form tk_cx (hr.mono (by omega)) rfl (sa_cons (se_var 0) (sa_cons se_int sa_nil)))) (ss_one (ss_ret (se_in hu65 (se_at (se_var 0) se_int) (se_tup (sa_cons se_str (sa_cons se_str (sa_cons se_str (sa_cons se_str sa_nil)))))))) ss_nil) (ss_cons (ss_if (st_val (se_call C_is_form tk_cx (hr.mono (by omega)) rfl (sa_cons (se_var 0) (sa_cons se_int sa_nil)))) (ss_cons (ss_if (st_eq hu (se_at (se_var 0) se_int) se_str) (ss_one (ss_ret (se_call C_is_count tk_cx (hr.mono (by omega)) rfl (sa_cons (se_at (se_var 0) se_int) (sa_cons se_int (sa_cons (se_glob T.c_MOST_REST rfl) sa_nil)))))) ss_nil) (ss_one (ss_ret (se_and (se_eq hu (se_at (se_var 0) se_int) se_str) (se_one (se_call C_is_count tk_cx (hr.mono (by omega)) rfl (sa_cons (se_at (se_var 0) se_int) (sa_cons se_int (sa_cons (se_glob T.c_MOST_FIRST rfl) sa_nil))))))))) ss_nil) (ss_cons (ss_if (PW.pt (sw_or (st_not (st_val (se_call C_is_form tk_cx (hr.mono (by omega)) rfl (sa_cons (se_var 0) (sa_cons se_int sa_nil))))) (sw_or (st_ne hu (se_at (se_var 0) se_int) se_str) (sw_or1 (st_eq hu (se_var 1) (se_glob T.c_MOST_DEEP rfl)))))) (ss_one (ss_ret se_bl)) ss_nil) (ss_one (ss_ret (se_and (se_call C_is_watcher tk_cx (hr.mono (by omega)) rfl (sa_cons (se_at (se_var 0) se_int) (sa_cons (se_add (se_var 1) se_int) sa_nil))) (se_one (se_call C_is_watcher tk_cx (hr.mono (by omega)) rfl (sa_cons (se_at (se_var 0) se_int) (sa_cons (se_add (se_var 1) se_int) sa_nil))))))))))
theorem sc_need_watcher : FnScope N_need_watcher ["watcher"] (defScope s_need_watcher) := ⟨rfl, rfl, rfl, by decide +kernel, rfl, by decide +kernel, by decide +kernel⟩
theorem ok_need_watcher {f : Addr} {fd : FuncData} (F : Fun K "need_watcher" "need_watcher" s_need_watcher f fd) (T : Txt K mg ec) (C_is_watcher : Cal P w K mg base ec "is_watcher" 2 7 (g_is_watcher 6)) : FnOk P w K mg base (L2N.CX P w) 8 f fd ["watcher"] (spP K ec 1 g_need_watcher) :=
  fn_pure F sc_need_watcher rfl fun cdv A outer s G0 H E i0 hr => by
    have hu := hr.units; have hu1 := hu_of hr; have hu0 := hr.units0; have hu65 := units65 hr
    exact (ss_one (ss_if (st_not (st_val (se_call C_is_watcher tk_cx (hr.mono (by decide)) rfl (sa_cons (se_var 0) (sa_cons se_int sa_nil))))) (ss_one (ss_raise T.x_BadSight tk_cx rfl)) ss_nil))
theorem sc_seen : FnScope N_seen ["watcher", "trail", "steps"] (defScope s_seen) := ⟨rfl, rfl, rfl, by decide +kernel, rfl, by decide +kernel, by decide +kernel⟩
theorem ok_seen {f : Addr} {fd : FuncData} (F : Fun K "seen" "seen" s_seen f fd) (T : Txt K mg ec)  (m : mg "seen" = some (.ref f)) (b : Binds K fd ["watcher", "trail", "steps"] []) (n : Nat) : FnOk P w K mg base (L2N.CX P w) (0 + n) f fd ["watcher", "trail", "steps"] (spP K ec 3 (g_seen n)) := by
  induction n with
  | zero => exact fn_no rfl fun _ => rfl
  | succ n ih =>
    have C_seen : Cal P w K mg base ec "seen" 3 (0 + n) (g_seen n) := cal_of F m b ih
    exact fn_pure (k := 0 + n) F sc_seen rfl fun cdv A outer s G0 H E i0 hr => by
      have hu := hr.units; have hu1 := hu_of hr; have hu0 := hr.units0; have hu65 := units65 hr
      exact (ss_cons (ss_set .P (i := 3) sc_seen.nd (se_at (se_var 0) se_int)) (ss_cons (ss_if (st_eq hu (se_var 3) se_str) (ss_one (ss_ret (se_tup (sa_cons (se_call C_seen tk_cx (hr.mono (by omega)) rfl (sa_cons (se_at (se_var 0) se_int) (sa_cons (se_var 1) (sa_cons (se_var 2) sa_nil)))) (sa_cons (se_call C_seen tk_cx (hr.mono (by omega)) rfl (sa_cons (se_at (se_var 0) se_int) (sa_cons (se_var 1) (sa_cons (se_var 2) sa_nil)))) sa_nil))))) ss_nil) (ss_cons (ss_if (st_eq hu (se_var 3) se_str) (ss_one (ss_ret (se_var 1))) ss_nil) (ss_cons (ss_if (st_eq hu (se_var 3) se_str) (ss_one (ss_ret (se_sl (se_var 1) (so_some (se_neg se_int)) so_none))) ss_nil) (ss_cons (ss_if (st_eq hu (se_var 3) se_str) (ss_one (ss_ret (se_tup (sa_cons (se_len rfl T.len (sa_cons (se_var 1) sa_nil)) sa_nil)))) ss_nil) (ss_cons (ss_if (st_eq hu (se_var 3) se_str) (ss_one (ss_ret (se_tup (sa_cons (se_var 2) sa_nil)))) ss_nil) (ss_cons (ss_if (st_eq hu (se_var 3) se_str) (ss_one (ss_ret (se_tuple rfl T.tuple (sa_cons (se_new (sn_lc (own := [("number", 4)]) tg_name rfl rfl sc_seen.nd (si_seq (se_var 1)) (blkOk_by (N := N_seen) (sc := defScope s_seen) (by decide +kernel)) (fun _ _ _ _ _ => (pg_name (i := 4) sc_seen.nd rfl (by first | exact Or.inl rfl | exact Or.inr rfl))) (fun _ _ _ _ _ => sts_nil) (fun _ _ _ _ _ => (se_mod (se_var 4) (se_at (se_var 0) se_int))))) sa_nil)))) ss_nil) (ss_one (ss_ret (se_sl (se_var 1) so_none (so_some (se_at (se_var 0) se_int))))))))))))
theorem sc__law_cell : FnScope N__law_cell ["script", "k"] (defScope s__law_cell) := ⟨rfl, rfl, rfl, by decide +kernel, rfl, by decide +kernel, by decide +kernel⟩
theorem ok__law_cell {f : Addr} {fd : FuncData} (F : Fun K "_law_cell" "_law_cell" s__law_cell f fd) (T : Txt K mg ec)  : FnOk P w K mg base (L2N.CX P w) 1 f fd ["script", "k"] (spP K ec 2 g__law_cell) :=
  fn_pure F sc__law_cell rfl fun cdv A outer s G0 H E i0 hr => by
    have hu := hr.units; have hu1 := hu_of hr; have hu0 := hr.units0; have hu65 := units65 hr
    exact (ss_cons (ss_if (st_eq hu (se_var 0) (se_new (sn_lst sa_nil))) (ss_one (ss_ret (se_mul (se_var 1) se_int))) ss_nil) (ss_one (ss_ret (se_add (se_at (se_var 0) (se_mod (se_var 1) (se_len rfl T.len (sa_cons (se_var 0) sa_nil)))) (se_mul (se_div (se_var 1) (se_len rfl T.len (sa_cons (se_var 0) sa_nil))) se_int)))))
theorem sc__law_drawn : FnScope N__law_drawn ["cell", "k"] (defScope s__law_drawn) := ⟨rfl, rfl, rfl, by decide +kernel, rfl, by decide +kernel, by decide +kernel⟩
theorem ok__law_drawn {f : Addr} {fd : FuncData} (F : Fun K "_law_drawn" "_law_drawn" s__law_drawn f fd) (T : Txt K mg ec)  : FnOk P w K mg base (L2N.CX P w) 1 f fd ["cell", "k"] (spP K ec 2 g__law_drawn) :=
  fn_pure F sc__law_drawn rfl fun cdv A outer s G0 H E i0 hr => by
    have hu := hr.units; have hu1 := hu_of hr; have hu0 := hr.units0; have hu65 := units65 hr
    exact (ss_cons (ss_set .P (i := 2) sc__law_drawn.nd (se_mod (se_add (se_mul (se_var 0) se_int) (se_mul (se_add (se_var 1) se_int) se_int)) se_int)) (ss_cons (ss_set .P (i := 2) sc__law_drawn.nd (se_mod (se_mul (se_var 2) (se_var 2)) se_int)) (ss_cons (ss_set .P (i := 2) sc__law_drawn.nd (se_mul (se_mul (se_add (se_mod (se_var 2) se_int) se_int) (se_add (se_div (se_var 2) se_int) se_int)) (se_var 2))) (ss_one (ss_ret (se_mod (se_var 2) se_int))))))
theorem sc__law_seen : FnScope N__law_seen ["watcher", "trail", "steps"] (defScope s__law_seen) := ⟨rfl, rfl, rfl, by decide +kernel, rfl, by decide +kernel, by decide +kernel⟩
theorem ok__law_seen {f : Addr} {fd : FuncData} (F : Fun K "_law_seen" "_law_seen" s__law_seen f fd) (T : Txt K mg ec)  (m : mg "_law_seen" = some (.ref f)) (b : Binds K fd ["watcher", "trail", "steps"] []) (n : Nat) : FnOk P w K mg base (L2N.CX P w) (0 + n) f fd ["watcher", "trail", "steps"] (spP K ec 3 (g__law_seen n)) := by
  induction n with
  | zero => exact fn_no rfl fun _ => rfl
  | succ n ih =>
    have C__law_seen : Cal P w K mg base ec "_law_seen" 3 (0 + n) (g__law_seen n) := cal_of F m b ih
    exact fn_pure (k := 0 + n) F sc__law_seen rfl fun cdv A outer s G0 H E i0 hr => by
      have hu := hr.units; have hu1 := hu_of hr; have hu0 := hr.units0; have hu65 := units65 hr
      exact (ss_cons (ss_if (st_eq hu (se_at (se_var 0) se_int) se_str) (ss_one (ss_ret (se_tup (sa_cons (se_call C__law_seen tk_cx (hr.mono (by omega)) rfl (sa_cons (se_at (se_var 0) se_int) (sa_cons (se_var 1) (sa_cons (se_var 2) sa_nil)))) (sa_cons (se_call C__law_seen tk_cx (hr.mono (by omega)) rfl (sa_cons (se_at (se_var 0) se_int) (sa_cons (se_var 1) (sa_cons (se_var 2) sa_nil)))) sa_nil))))) ss_nil) (ss_cons (ss_if (st_eq hu (se_at (se_var 0) se_int) se_str) (ss_one (ss_ret (se_tuple rfl T.tuple (sa_cons (se_new (sn_lc (own := [("number", 4)]) tg_name rfl rfl sc__law_seen.nd (si_seq (se_var 1)) (blkOk_by (N := N__law_seen) (sc := defScope s__law_seen) (by decide +kernel)) (fun _ _ _ _ _ => (pg_name (i := 4) sc__law_seen.nd rfl (by first | exact Or.inl rfl | exact Or.inr rfl))) (fun _ _ _ _ _ => sts_nil) (fun _ _ _ _ _ => (se_mod (se_var 4) (se_at (se_var 0) se_int))))) sa_nil)))) ss_nil) (ss_cons (ss_set .P (i := 3) sc__law_seen.nd (se_new (sn_disp (sp_cons (se_var 1) (sp_cons (se_sl (se_var 1) (so_some (se_max2 rfl rfl T.max (sa_cons se_int (sa_cons (se_sub (se_len rfl T.len (sa_cons (se_var 1) sa_nil)) se_int) sa_nil)))) so_none) (sp_cons (se_tup (sa_cons (se_len rfl T.len (sa_cons (se_var 1) sa_nil)) sa_nil)) (sp_cons (se_tup (sa_cons (se_var 2) sa_nil)) sp_nil)))) (by decide +kernel)))) (ss_cons (ss_if (st_eq hu (se_at (se_var 0) se_int) se_str) (ss_one (ss_ret (se_sl (se_var 1) so_none (so_some (se_at (se_var 0) se_int))))) ss_nil) (ss_one (ss_ret (se_dat hu1 (se_var 3) (se_at (se_var 0) se_int))))))))
theorem sc__law_watcher : FnScope N__law_watcher ["script", "k", "deep"] (defScope s__law_watcher) := ⟨rfl, rfl, rfl, by decide +kernel, rfl, by decide +kernel, by decide +kernel⟩
theorem ok__law_watcher {f : Addr} {fd : FuncData} (F : Fun K "_law_watcher" "_law_watcher" s__law_watcher f fd) (T : Txt K mg ec) (C__law_cell : Cal P w K mg base ec "_law_cell" 2 1 g__law_cell) (C__law_drawn : Cal P w K mg base ec "_law_drawn" 2 1 g__law_drawn) (m : mg "_law_watcher" = some (.ref f)) (b : Binds K fd ["script", "k", "deep"] []) (n : Nat) : FnOk P w K mg base (L2N.CX P w) (1 + n) f fd ["script", "k", "deep"] (spP K ec 3 (g__law_watcher n)) := by
  induction n with
  | zero => exact fn_no rfl fun _ => rfl
  | succ n ih =>
    have C__law_watcher : Cal P w K mg base ec "_law_watcher" 3 (1 + n) (g__law_watcher n) := cal_of F m b ih
    exact fn_pure (k := 1 + n) F sc__law_watcher rfl fun cdv A outer s G0 H E i0 hr => by
      have hu := hr.units; have hu1 := hu_of hr; have hu0 := hr.units0; have hu65 := units65 hr
      exact (ss_cons (ss_set .P (i := 3) sc__law_watcher.nd (se_call C__law_drawn tk_cx (hr.mono (by omega)) rfl (sa_cons (se_call C__law_cell tk_cx (hr.mono (by omega)) rfl (sa_cons (se_var 0) (sa_cons (se_var 1) sa_nil))) (sa_cons (se_add (se_var 1) se_int) sa_nil)))) (ss_cons (ss_if (PW.pt (sw_and (st_gt (se_var 2) se_int) (sw_and1 (st_eq hu (se_mod (se_var 3) se_int) se_int)))) (ss_one (ss_ret (se_tup (sa_cons se_str (sa_cons (se_call C__law_watcher tk_cx (hr.mono (by omega)) rfl (sa_cons (se_var 0) (sa_cons (se_add (se_mul se_int (se_var 1)) se_int) (sa_cons (se_sub (se_var 2) se_int) sa_nil)))) (sa_cons (se_call C__law_watcher tk_cx (hr.mono (by omega)) rfl (sa_cons (se_var 0) (sa_cons (se_add (se_mul se_int (se_var 1)) se_int) (sa_cons (se_sub (se_var 2) se_int) sa_nil)))) sa_nil)))))) ss_nil) (ss_cons (ss_set .P (i := 4) sc__law_watcher.nd (se_new (sn_lst (sa_cons (se_tup (sa_cons se_str sa_nil)) (sa_cons (se_tup (sa_cons se_str sa_nil)) (sa_cons (se_tup (sa_cons se_str sa_nil)) (sa_cons (se_tup (sa_cons se_str sa_nil)) (sa_cons (se_tup (sa_cons se_str (sa_cons (se_add se_int (se_mod (se_div (se_var 3) se_int) se_int)) sa_nil))) sa_nil)))))))) (ss_cons (ss_set .P (i := 4) sc__law_watcher.nd (se_add (se_var 4) (se_new (sn_lst (sa_cons (se_tup (sa_cons se_str (sa_cons (se_mod (se_div (se_var 3) se_int) se_int) sa_nil))) sa_nil))))) (ss_one (ss_ret (se_at (se_add (se_var 4) (se_new (sn_lst (sa_cons (se_tup (sa_cons se_str sa_nil)) (sa_cons (se_tup (sa_cons se_str (sa_cons se_int sa_nil))) (sa_cons (se_tup (sa_cons se_str (sa_cons se_int sa_nil))) sa_nil)))))) (se_mod (se_div (se_var 3) se_int) se_int))))))))
theorem sc__law_told : FnScope N__law_told ["thing"] (defScope s__law_told) := ⟨rfl, rfl, rfl, by decide +kernel, rfl, by decide +kernel, by decide +kernel⟩
theorem ok__law_told {f : Addr} {fd : FuncData} (F : Fun K "_law_told" "_law_told" s__law_told f fd) (T : Txt K mg ec) (C__law_word : CalW P w K mg base ec "_law_word" 1 wdL) (C_need_watcher : Cal P w K mg base ec "need_watcher" 1 8 g_need_watcher) : FnOk P w K mg base (L2N.CX P w) 9 f fd ["thing"] (spP K ec 1 g__law_told) :=
  fn_pure F sc__law_told rfl fun cdv A outer s G0 H E i0 hr => by
    have hu := hr.units; have hu1 := hu_of hr; have hu0 := hr.units0; have hu65 := units65 hr
    exact (ss_one (ss_try (i := 1) i0 C__law_word (hr.mono (by decide)) tk_cx rfl rfl sc__law_told.nd rfl rfl rfl rfl T.m_TellError T.xm (fun W2 pn2 xx2 tkT hpT => (ss_one (ss_ret (se_call C_need_watcher tkT (hr.mono (by decide)) rfl (sa_cons (se_var 0) sa_nil))))) (Or.inl rfl)))
theorem sc_law : FnScope N_law ["script"] (defScope s_law) := ⟨rfl, rfl, rfl, by decide +kernel, rfl, by decide +kernel, by decide +kernel⟩
theorem ok_law {f : Addr} {fd : FuncData} (F : Fun K "law" "law" s_law f fd) (T : Txt K mg ec) (C__law_cell : Cal P w K mg base ec "_law_cell" 2 1 g__law_cell) (C__law_drawn : Cal P w K mg base ec "_law_drawn" 2 1 g__law_drawn) (C__law_seen : Cal P w K mg base ec "_law_seen" 3 5 (g__law_seen 5)) (C__law_told : Cal P w K mg base ec "_law_told" 1 9 g__law_told) (C__law_watcher : Cal P w K mg base ec "_law_watcher" 3 6 (g__law_watcher 5)) (C_seen : Cal P w K mg base ec "seen" 3 5 (g_seen 5)) : FnOk P w K mg base (L2N.CX P w) 10 f fd ["script"] (spP K ec 1 g_law) :=
  fn_pure F sc_law rfl fun cdv A outer s G0 H E i0 hr => by
    have hu := hr.units; have hu1 := hu_of hr; have hu0 := hr.units0; have hu65 := units65 hr
    exact (ss_cons (ss_for hp_cx rfl (si_range1 rfl T.range (sa_cons (se_max2 rfl rfl T.max (sa_cons se_int (sa_cons (se_min2 rfl rfl T.min (sa_cons se_int (sa_cons (se_len rfl T.len (sa_cons (se_var 0) sa_nil)) sa_nil))) sa_nil))) sa_nil)) (sg_name (i := 1) sc_law.nd) (ss_cons (ss_set .P (i := 2) sc_law.nd (se_call C__law_drawn tk_cx (hr.mono (by decide)) rfl (sa_cons (se_call C__law_cell tk_cx (hr.mono (by decide)) rfl (sa_cons (se_var 0) (sa_cons (se_var 1) sa_nil))) (sa_cons (se_var 1) sa_nil)))) (ss_cons (ss_set .P (i := 3) sc_law.nd (se_call C__law_watcher tk_cx (hr.mono (by decide)) rfl (sa_cons (se_var 0) (sa_cons (se_var 1) (sa_cons se_int sa_nil))))) (ss_cons (ss_set .P (i := 4) sc_law.nd (se_tuple rfl T.tuple (sa_cons (se_new (sn_lc (own := [("j", 9)]) tg_name rfl rfl sc_law.nd (si_range1 rfl T.range (sa_cons (se_mod (se_var 2) se_int) sa_nil)) (blkOk_by (N := N_law) (sc := defScope s_law) (by decide +kernel)) (fun _ _ _ _ _ => (pg_name (i := 9) sc_law.nd rfl (by first | exact Or.inl rfl | exact Or.inr rfl))) (fun _ _ _ _ _ => sts_nil) (fun _ _ _ _ _ => (se_mod (se_call C__law_drawn takes0N (hr.mono (by decide)) rfl (sa_cons (se_var 2) (sa_cons (se_var 9) sa_nil))) se_int)))) sa_nil))) (ss_cons (ss_set .P (i := 5) sc_law.nd (se_mod (se_div (se_var 2) se_int) se_int)) (ss_cons (ss_if (st_isNot (se_call C__law_told tk_cx (hr.mono (by decide)) rfl (sa_cons (se_var 3) sa_nil)) se_non) (ss_one (ss_ret se_bl)) ss_nil) (ss_cons (ss_if (st_ne hu (se_call C_seen tk_cx (hr.mono (by decide)) rfl (sa_cons (se_var 3) (sa_cons (se_var 4) (sa_cons (se_var 5) sa_nil)))) (se_call C__law_seen tk_cx (hr.mono (by decide)) rfl (sa_cons (se_var 3) (sa_cons (se_var 4) (sa_cons (se_var 5) sa_nil))))) (ss_one (ss_ret se_bl)) ss_nil) (ss_cons (ss_set .P (i := 6) sc_law.nd (se_new (sn_lst (sa_cons (se_tup (sa_cons se_str (sa_cons se_int sa_nil))) (sa_cons (se_tup (sa_cons se_str (sa_cons se_int sa_nil))) (sa_cons (se_tup (sa_cons se_str (sa_cons se_bl sa_nil))) (sa_cons (se_tup (sa_cons se_str sa_nil)) (sa_cons (se_tup (sa_cons se_str (sa_cons (se_neg se_int) sa_nil))) sa_nil)))))))) (ss_cons (ss_set .P (i := 6) sc_law.nd (se_add (se_var 6) (se_new (sn_lst (sa_cons (se_tup (sa_cons se_str (sa_cons se_int sa_nil))) (sa_cons (se_tup (sa_cons se_str (sa_cons se_str sa_nil))) sa_nil)))))) (ss_cons (ss_set .P (i := 6) sc_law.nd (se_add (se_var 6) (se_new (sn_lst (sa_cons (se_tup (sa_cons se_str (sa_cons se_int sa_nil))) (sa_cons (se_tup (sa_cons se_str sa_nil)) (sa_cons se_str (sa_cons se_non (sa_cons (se_new (sn_lst (sa_cons se_str sa_nil))) (sa_cons (se_tup sa_nil) (sa_cons (se_tup (sa_cons se_str (sa_cons (se_tup (sa_cons se_str sa_nil)) sa_nil))) sa_nil))))))))))) (ss_cons (ss_set .P (i := 6) sc_law.nd (se_add (se_var 6) (se_new (sn_lst (sa_cons (se_tup (sa_cons se_str (sa_cons (se_tup (sa_cons se_str sa_nil)) (sa_cons se_str sa_nil)))) (sa_cons se_int sa_nil)))))) (ss_cons (ss_set .P (i := 6) sc_law.nd (se_add (se_var 6) (se_new (sn_lst (sa_cons (se_tup (sa_cons se_str (sa_cons (se_tup (sa_cons se_str sa_nil)) (sa_cons (se_tup (sa_cons se_str (sa_cons se_int sa_nil))) sa_nil)))) (sa_cons (se_tup (sa_cons se_str (sa_cons (se_tup sa_nil) sa_nil))) sa_nil)))))) (ss_cons (ss_set .P (i := 6) sc_law.nd (se_add (se_var 6) (se_new (sn_lst (sa_cons (se_tup (sa_cons se_str (sa_cons (se_tup (sa_cons se_str sa_nil)) (sa_cons (se_tup (sa_cons se_str sa_nil)) (sa_cons (se_tup (sa_cons se_str sa_nil)) sa_nil))))) (sa_cons (se_tup (sa_cons (se_tup (sa_cons se_str sa_nil)) sa_nil)) sa_nil)))))) (ss_cons (ss_set .P (i := 7) sc_law.nd (se_at (se_var 6) (se_mod (se_div (se_var 2) se_int) (se_len rfl T.len (sa_cons (se_var 6) sa_nil))))) (ss_cons (ss_set .P (i := 8) sc_law.nd (se_var 3)) (ss_cons (ss_for hp_cx rfl (si_range1 rfl T.range (sa_cons (se_mod (se_div (se_var 2) se_int) se_int) sa_nil)) (sg_name (i := 9) sc_law.nd) (ss_one (ss_set .P (i := 8) sc_law.nd (se_at (se_new (sn_lst (sa_cons (se_tup (sa_cons se_str (sa_cons (se_tup (sa_cons se_str sa_nil)) (sa_cons (se_var 8) sa_nil)))) (sa_cons (se_tup (sa_cons se_str (sa_cons (se_var 8) (sa_cons (se_tup (sa_cons se_str sa_nil)) sa_nil)))) sa_nil)))) (se_mod (se_div (se_var 2) (se_pow se_int se_int)) se_int))))) (ss_cons (ss_set .P (i := 10) sc_law.nd se_int) (ss_cons (ss_own (i := 11) sc_law.nd (sn_lst (sa_cons (se_tup (sa_cons (se_var 8) (sa_cons se_int sa_nil))) sa_nil))) (ss_cons (ss_while 100 hp_cx (st_ne hu (se_var 11) (se_new (sn_lst sa_nil))) (ss_cons (ss_popT (i := 11) (sg_tup rfl (sn_cons (i := 13) sc_law.nd (sn_cons (i := 14) sc_law.nd sn_nil)))) (ss_cons (ss_set .P (i := 10) sc_law.nd (se_max2 rfl rfl T.max (sa_cons (se_var 10) (sa_cons (se_var 14) sa_nil)))) (ss_one (ss_if (st_eq hu (se_at (se_var 13) se_int) se_str) (ss_frz 11 (ss_one (ss_own (i := 11) sc_law.nd (sn_add (se_var 11) (se_new (sn_lst (sa_cons (se_tup (sa_cons (se_at (se_var 13) se_int) (sa_cons (se_add (se_var 14) se_int) sa_nil))) (sa_cons (se_tup (sa_cons (se_at (se_var 13) se_int) (sa_cons (se_add (se_var 14) se_int) sa_nil))) sa_nil)))))))) ss_nil))))) (ss_cons (ss_if (st_ne hu (se_call C__law_told tk_cx (hr.mono (by decide)) rfl (sa_cons (se_var 8) sa_nil)) (se_at (se_new (sn_lst (sa_cons se_non (sa_cons se_str sa_nil)))) (se_intc rfl T.int (sa_cons (se_gt (se_var 10) se_int) sa_nil)))) (ss_one (ss_ret se_bl)) ss_nil) (ss_one (ss_for hp_cx rfl (si_seq (se_new (sn_lst (sa_cons (se_var 7) (sa_cons (se_tup (sa_cons se_str (sa_cons (se_var 7) (sa_cons (se_var 3) sa_nil)))) (sa_cons (se_tup (sa_cons se_str (sa_cons (se_tup (sa_cons se_str (sa_cons (se_tup (sa_cons se_str sa_nil)) (sa_cons (se_var 7) sa_nil)))) (sa_cons (se_tup (sa_cons se_str sa_nil)) sa_nil)))) sa_nil)))))) (sg_name (i := 12) sc_law.nd) (ss_one (ss_if (st_ne hu (se_call C__law_told tk_cx (hr.mono (by decide)) rfl (sa_cons (se_var 12) sa_nil)) se_str) (ss_one (ss_ret se_bl)) ss_nil)))))))))))))))))))))))) (ss_one (ss_ret se_bl)))
end
theorem cell_ok (ns : List Int) (hl : ns.length ≤ 63) (k : Int) (hk : 0 ≤ k) : ∃ c : Int, g__law_cell [.list (ns.map .int), .int k] = .ok (.int c) := by
  cases ns with
  | nil =>
    refine ⟨k * 7919, ?_⟩
    simp [g__law_cell, runB, fb__law_cell, entry, sSeq, sRet, sIf, bVal, eBin, eVar, eC, eLst, aAll, Sl.full, dEq_nil, dMul_int, mulOk_r]
  | cons n r =>
    have h0 : (0 : Int) < ((n :: r).length : Int) := by rw [List.length_cons]; omega
    have hm0 : 0 ≤ k % ((n :: r).length : Int) := Int.emod_nonneg _ (by omega)
    have hm1 : k % ((n :: r).length : Int) < ((n :: r).length : Int) := Int.emod_lt_of_pos _ h0
    obtain ⟨x, hx⟩ := dIx_any (xs := (n :: r).map PyData.int) (i := k % ((n :: r).length : Int)) hm0 (by simpa using hm1)
    have hx2 : ∃ z : Int, x = .int z := by
      obtain ⟨z, _, e⟩ := List.mem_map.mp hx.2
      exact ⟨z, e.symm⟩
    obtain ⟨z, rfl⟩ := hx2
    have e1 := shaped_ints (n :: r)
    have dv : divOk (((n :: r).length : Nat) : Int) = true := divOk_small h0 (by omega)
    refine ⟨z + k / ((n :: r).length : Int) * 104729, ?_⟩
    have hx1 := hx.1
    simp only [List.map_cons, List.length_cons] at hx1 e1 dv h0 hl ⊢
    simp [g__law_cell, runB, fb__law_cell, entry, sSeq, sRet, sIf, sNil, bVal, eBin, eVar, eC, eLst, eCall, aAll, Sl.full, dEq_nil, e1, dMul_int, mulOk_r, dMod_int, dDiv_int]
    simp only [Int.natCast_add, Int.cast_ofNat_Int] at *
    simp [h0, dv, dMod_int, dDiv_int, hx1, dMul_int, mulOk_r]
theorem drawn_ok (c k : Int) : ∃ m : Int, g__law_drawn [.int c, .int k] = .ok (.int m) ∧ 0 ≤ m ∧ m < 340282366920938463463374607431768211507 := by
  generalize h1 : (c * 6364136223846793005 + (k + 1) * 1442695040888963407) % 340282366920938463463374607431768211507 = m1
  generalize h2 : m1 * m1 % 340282366920938463463374607431768211297 = m2
  generalize h3 : (m2 % 18446744073709551557 + 1) * (m2 / 18446744073709551557 + 1) * m2 = m3
  have b1 : 0 ≤ m1 ∧ m1 < 340282366920938463463374607431768211507 := by omega
  have b2 : 0 ≤ m2 ∧ m2 < 340282366920938463463374607431768211297 := by omega
  have ok1 : mulOk m1 m1 = true := mulOk_bd (n := 129) (m := 129) (by unfold Bd; omega) (by unfold Bd; omega) (by decide)
  have ok2 : mulOk (m2 % 18446744073709551557 + 1) (m2 / 18446744073709551557 + 1) = true := mulOk_bd (n := 128) (m := 128) (by unfold Bd; omega) (by unfold Bd; omega) (by decide)
  have ok3 : mulOk ((m2 % 18446744073709551557 + 1) * (m2 / 18446744073709551557 + 1)) m2 = true := mulOk_bd (n := 256) (m := 128) (by
    unfold Bd
    rw [Int.natAbs_mul]
    have x1 : (m2 % 18446744073709551557 + 1).natAbs < 2 ^ 128 := by omega
    have x2 : (m2 / 18446744073709551557 + 1).natAbs < 2 ^ 128 := by omega
    calc _ < 2 ^ 128 * 2 ^ 128 := Nat.mul_lt_mul'' x1 x2
      _ = 2 ^ 256 := by decide) (by unfold Bd; omega) (by decide)
  refine ⟨m3 % 340282366920938463463374607431768211507, ?_, by omega, by omega⟩
  simp [g__law_drawn, runB, fb__law_drawn, entry, sSeq, sAsg, sRet, evM, eBin, eVar, eC, Sl.pur, Sl.full, dMul_int, mulOk_r, dMod_int, dDiv_int, divOk_small, h1, h2, h3, ok1, ok2, ok3]
inductive Wt where
  | all
  | last
  | count
  | steps
  | rest (m : Int)
  | first (m : Int)
  | both (a b : Wt)
namespace Wt
def d : Wt → PyData
  | .all => .tuple [.str "all"]
  | .last => .tuple [.str "last"]
  | .count => .tuple [.str "count"]
  | .steps => .tuple [.str "steps"]
  | .rest m => .tuple [.str "rest", .int m]
  | .first m => .tuple [.str "first", .int m]
  | .both a b => .tuple [.str "both", a.d, b.d]
def h : Wt → Nat
  | .both a b => max a.h b.h + 1
  | _ => 0
def sz : Wt → Nat
  | .both a b => a.sz + b.sz + 1
  | _ => 1
def ok : Wt → Prop
  | .rest m => 1 ≤ m ∧ m ≤ 999
  | .first m => 0 ≤ m ∧ m ≤ 40
  | .both a b => a.ok ∧ b.ok
  | _ => True
def see (ts : List Int) (st : Int) : Wt → PyData
  | .all => .tuple (ts.map .int)
  | .last => .tuple ((ts.map PyData.int).drop (ts.length - 1))
  | .count => .tuple [.int ts.length]
  | .steps => .tuple [.int st]
  | .rest m => .tuple ((ts.map (· % m)).map .int)
  | .first m => .tuple ((ts.map PyData.int).take m.toNat)
  | .both a b => .tuple [a.see ts st, b.see ts st]
end Wt
theorem atomic_str {s : Str} : atomic (.str s) = true := rfl
theorem anyEq_str (x : String) (ds : List String) : anyEq (.str (Str.ofString x)) (ds.map fun s => .str (Str.ofString s)) = ds.any fun s => decide (s = x) := by
  unfold anyEq
  rw [List.any_map]
  congr 1
  funext s
  simp only [Function.comp, PyData.eqv]
  by_cases h : s = x
  · subst h; simp
  · have : ¬ Str.ofString s = Str.ofString x := fun z => h (ofString_inj.mp z)
    simp [h, this]
theorem in4 (x : String) : dIn (.str (Str.ofString x)) (.tuple [.str "all", .str "last", .str "count", .str "steps"]) = .ok (.bool (["all", "last", "count", "steps"].any fun s => decide (s = x))) := by
  rw [← anyEq_str]
  rfl
theorem isw_step (n : Nat) (w : Wt) (k : Int) (hw : w.ok) (hk : 1 ≤ k ∧ k ≤ 4) (hn : 5 ≤ k + n) : g_is_watcher n [w.d, .int k] = .ok (.bool (decide (k + w.h ≤ 4))) := by
  induction n generalizing w k with
  | zero => omega
  | succ n ih =>
    have h4 : k ≤ 4 := hk.2
    cases w with
    | both a b =>
      by_cases hk4 : k = 4
      · subst hk4
        have : ¬ ((4 : Int) + ((Wt.both a b).h : Int) ≤ 4) := by simp only [Wt.h]; omega
        simp [g_is_watcher, runB, fb_is_watcher, entry, sSeq, sRet, sIf, sNil, evM, eBin, eVar, eC, eUn, eCall, aAll, bVal, bOr, bNot, bC, eAnd, Sl.pur, Sl.full, g_is_form, fb_is_form, isi_tuple, is_tuple, isi_str, is_str, Wt.d, c_MOST_DEEP, this]
      · have e1 := ih a (k + 1) hw.1 ⟨by omega, by omega⟩ (by omega)
        have e2 := ih b (k + 1) hw.2 ⟨by omega, by omega⟩ (by omega)
        unfold g_is_watcher
        generalize hg : g_is_watcher n = gg at e1 e2 ⊢
        simp [runB, fb_is_watcher, entry, sSeq, sRet, sIf, sNil, evM, eBin, eVar, eC, eUn, eCall, aAll, bVal, bOr, bNot, bC, eAnd, Sl.pur, Sl.full, g_is_form, fb_is_form, isi_tuple, is_tuple, isi_str, is_str, Wt.d, c_MOST_DEEP, hk4, e1, e2]
        have hh : k + ((Wt.both a b).h : Int) ≤ 4 ↔ (k + 1 + (a.h : Int) ≤ 4 ∧ k + 1 + (b.h : Int) ≤ 4) := by simp only [Wt.h]; omega
        by_cases ha : k + 1 + (a.h : Int) ≤ 4 <;> by_cases hb : k + 1 + (b.h : Int) ≤ 4 <;> simp [ha, hb, hh, eC, eCall, aAll, eBin, eVar, e2]
    | rest m =>
      have := hw.1; have := hw.2
      simp [g_is_watcher, runB, fb_is_watcher, entry, sSeq, sRet, sIf, sNil, evM, eBin, eVar, eC, eUn, eCall, aAll, bVal, bOr, bNot, bC, eAnd, eNot, Sl.pur, Sl.full, g_is_form, fb_is_form, isi_tuple, is_tuple, isi_str, is_str, Wt.d, Wt.h, c_MOST_DEEP, c_MOST_REST, g_is_count, fb_is_count, isi_int, is_int, isi_bool, is_bool, eChain, hw.1, hw.2, h4]
    | first m =>
      simp [g_is_watcher, runB, fb_is_watcher, entry, sSeq, sRet, sIf, sNil, evM, eBin, eVar, eC, eUn, eCall, aAll, bVal, bOr, bNot, bC, eAnd, eNot, Sl.pur, Sl.full, g_is_form, fb_is_form, isi_tuple, is_tuple, isi_str, is_str, Wt.d, Wt.h, c_MOST_DEEP, c_MOST_FIRST, g_is_count, fb_is_count, isi_int, is_int, isi_bool, is_bool, eChain, hw.1, hw.2, h4]
    | _ =>
      simp [g_is_watcher, runB, fb_is_watcher, entry, sSeq, sRet, sIf, sNil, evM, eBin, eVar, eC, eUn, eCall, aAll, bVal, bOr, bNot, bC, eAnd, eNot, eTup, Sl.pur, Sl.full, g_is_form, fb_is_form, isi_tuple, is_tuple, isi_str, is_str, Wt.d, Wt.h, in4, h4]
theorem told_wt (w : Wt) (hw : w.ok) : g__law_told [w.d] = .ok (if w.h ≤ 3 then .none else .str "BadSight") := by
  have e := isw_step 6 w 1 hw (by omega) (by omega)
  by_cases h : w.h ≤ 3
  · have : (1 : Int) + w.h ≤ 4 := by omega
    simp [g__law_told, runB, fb__law_told, entry, sTry, sRet, eCall, aAll, eVar, eC, Sl.pur, g_need_watcher, fb_need_watcher, sIf, bNot, bVal, Sl.full, e, this, h, sNil]
  · have : ¬ (1 : Int) + w.h ≤ 4 := by omega
    simp [g__law_told, runB, fb__law_told, entry, sTry, sRet, eCall, aAll, eVar, eC, Sl.pur, g_need_watcher, fb_need_watcher, sIf, bNot, bVal, Sl.full, e, this, h, sNil, sRaise, wdL]

/-! what is seen -/
theorem lcF_mod (m : Int) (hm : 0 < m) (w : PyData) (hw : dIx w (.int 1) = .ok (.int m)) (a b c e : Option PyData) : ∀ (ts : List Int) (z : Option PyData), lcF (cN 4) bYes (eBin dMod (eVar 4) (eBin dIx (eVar 0) (eC (.int 1)))) (ts.map PyData.int) [some w, a, b, c, z] = .ok ((ts.map (· % m)).map PyData.int)
  | [], z => rfl
  | t :: ts, z => by
    rw [List.map_cons, lcF]
    simp [cN, bYes, eBin, eVar, eC, hw, dMod_int, hm, lcF_mod m hm w hw a b c e ts z]
theorem sIx_some (n d : Nat) (v : Int) : HT.sIx n d (some v) = if v < 0 then (v + (n : Int)).toNat else min v.toNat n := rfl
theorem see_first (ts : List PyData) (m : Int) (hm : 0 ≤ m) : cutD ts none (some m) = ts.take m.toNat := by
  unfold cutD
  rw [HT.sIx_none]
  rw [sIx_some, if_neg (by omega)]
  simp
theorem see_last (ts : List PyData) : cutD ts (some (-1)) none = ts.drop (ts.length - 1) := by
  unfold cutD
  rw [HT.sIx_none]
  have e : HT.sIx ts.length 0 (some (-1)) = ts.length - 1 := by
    rw [sIx_some, if_pos (by omega)]
    omega
  rw [e]
  exact List.take_of_length_le (by rw [List.length_drop]; omega)
theorem see_last2 (ts : List PyData) (m : Int) (h : m = if (ts.length : Int) - 1 > 0 then (ts.length : Int) - 1 else 0) : cutD ts (some m) none = ts.drop (ts.length - 1) := by
  unfold cutD
  rw [HT.sIx_none]
  have e : HT.sIx ts.length 0 (some m) = ts.length - 1 := by
    rw [sIx_some]
    split at h
    · rw [if_neg (by omega)]; omega
    · rw [if_neg (by omega)]; omega
  rw [e]
  exact List.take_of_length_le (by rw [List.length_drop]; omega)
theorem seen_ok (n : Nat) (w : Wt) (hw : w.ok) (hn : w.h + 1 ≤ n) (ts : List Int) (hts : ts.length ≤ 10) (st : Int) : g_seen n [w.d, .tuple (ts.map .int), .int st] = .ok (w.see ts st) := by
  induction n generalizing w with
  | zero => omega
  | succ n ih =>
    have hsz : (ts.length : Nat) < szl := Nat.lt_of_le_of_lt hts (by decide)
    cases w with
    | both a b =>
      simp only [Wt.h] at hn
      have e1 := ih a hw.1 (by omega)
      have e2 := ih b hw.2 (by omega)
      unfold g_seen
      generalize hg : g_seen n = gg at e1 e2 ⊢
      simp [runB, fb_seen, entry, sSeq, sAsg, sRet, sIf, sNil, evM, eBin, eVar, eC, eCall, aAll, bVal, Sl.pur, Sl.full, Wt.d, eTup, e1, e2, Wt.see]
    | rest m =>
      have l := lcF_mod m (by have := hw.1; omega) (.tuple [.str "rest", .int m]) rfl (some (.tuple (ts.map .int))) (some (.int st)) (some (.str "rest")) none ts none
      simp [g_seen, runB, fb_seen, entry, sSeq, sAsg, sRet, sIf, sNil, evM, eBin, eVar, eC, eCall, aAll, bVal, Sl.pur, Sl.full, eTup, eLc, iSeq, itemsOf, lcE, gTuple, Wt.see, Wt.d, l, hsz]
    | first m =>
      have := hw.1
      simp [g_seen, runB, fb_seen, entry, sSeq, sAsg, sRet, sIf, sNil, evM, eBin, eVar, eC, eCall, aAll, bVal, Sl.pur, Sl.full, eTup, eSl, eOpt, dSl, Wt.see, Wt.d, see_first, this]
    | last => simp [g_seen, runB, fb_seen, entry, sSeq, sAsg, sRet, sIf, sNil, evM, eBin, eVar, eC, eUn, eCall, aAll, bVal, Sl.pur, Sl.full, eTup, eSl, eOpt, dSl, Wt.see, Wt.d, see_last]
    | _ => simp [g_seen, runB, fb_seen, entry, sSeq, sAsg, sRet, sIf, sNil, evM, eBin, eVar, eC, eCall, aAll, bVal, Sl.pur, Sl.full, eTup, Wt.see, Wt.d]
theorem lseen_ok (n : Nat) (w : Wt) (hw : w.ok) (hn : w.h + 1 ≤ n) (ts : List Int) (hts : ts.length ≤ 10) (st : Int) : g__law_seen n [w.d, .tuple (ts.map .int), .int st] = .ok (w.see ts st) := by
  induction n generalizing w with
  | zero => omega
  | succ n ih =>
    have hsz : (ts.length : Nat) < szl := Nat.lt_of_le_of_lt hts (by decide)
    have sl := see_last2 (ts.map PyData.int) (if 1 < (ts.length : Int) then (ts.length : Int) - 1 else 0) (by rw [List.length_map]; split <;> split <;> omega)
    simp only [List.length_map] at sl
    cases w with
    | both a b =>
      simp only [Wt.h] at hn
      have e1 := ih a hw.1 (by omega)
      have e2 := ih b hw.2 (by omega)
      unfold g__law_seen
      generalize hg : g__law_seen n = gg at e1 e2 ⊢
      simp [runB, fb__law_seen, entry, sSeq, sAsg, sRet, sIf, sNil, evM, eBin, eVar, eC, eCall, aAll, bVal, Sl.pur, Sl.full, Wt.d, eTup, e1, e2, Wt.see]
    | rest m =>
      have l := lcF_mod m (by have := hw.1; omega) (.tuple [.str "rest", .int m]) rfl (some (.tuple (ts.map .int))) (some (.int st)) none none ts none
      simp [g__law_seen, runB, fb__law_seen, entry, sSeq, sAsg, sRet, sIf, sNil, evM, eBin, eVar, eC, eCall, aAll, bVal, Sl.pur, Sl.full, eTup, eLc, iSeq, itemsOf, lcE, gTuple, Wt.see, Wt.d, l, hsz]
    | first m =>
      have := hw.1
      simp [g__law_seen, runB, fb__law_seen, entry, sSeq, sAsg, sRet, sIf, sNil, evM, eBin, eVar, eC, eCall, aAll, bVal, Sl.pur, Sl.full, eTup, eSl, eOpt, dSl, Wt.see, Wt.d, see_first, this, eDisp, zipK, sl]
    | _ => simp [g__law_seen, runB, fb__law_seen, entry, sSeq, sAsg, sRet, sIf, sNil, evM, eBin, eVar, eC, eCall, aAll, bVal, Sl.pur, Sl.full, eTup, eSl, eOpt, dSl, Wt.see, Wt.d, eDisp, zipK, sl, dDIx, keyOf, dLook, isK, ofString_inj]

/-! odd things -/
def odds : List PyData := [.tuple [.str "rest", .int 0], .tuple [.str "rest", .int 1000], .tuple [.str "rest", .bool true], .tuple [.str "rest"], .tuple [.str "first", .int (-1)],
  .tuple [.str "first", .int 41], .tuple [.str "first", .str "2"], .tuple [.str "all", .int 1], .tuple [.str "none"], .str "all", .none, .list [.str "all"], .tuple [], .tuple [.str "both", .tuple [.str "all"]],
  .tuple [.str "both", .tuple [.str "all"], .str "all"], .int 5, .tuple [.str "both", .tuple [.str "all"], .tuple [.str "rest", .int 0]], .tuple [.str "last", .tuple []],
  .tuple [.str "both", .tuple [.str "all"], .tuple [.str "all"], .tuple [.str "all"]], .tuple [.tuple [.str "all"]]]
theorem all_isw (n : Nat) (k : Int) : g_is_watcher (n + 1) [.tuple [.str "all"], .int k] = .ok (.bool true) := by
  simp [g_is_watcher, runB, fb_is_watcher, entry, sSeq, sRet, sIf, sNil, evM, eBin, eVar, eC, eUn, eCall, aAll, bVal, bOr, bNot, bC, eAnd, eNot, eTup, Sl.pur, Sl.full, g_is_form, fb_is_form, isi_tuple, is_tuple, isi_str, is_str, in4]
theorem rest0_isw (n : Nat) (k : Int) : g_is_watcher (n + 1) [.tuple [.str "rest", .int 0], .int k] = .ok (.bool false) := by
  simp [g_is_watcher, runB, fb_is_watcher, entry, sSeq, sRet, sIf, sNil, evM, eBin, eVar, eC, eUn, eCall, aAll, bVal, bOr, bNot, bC, eAnd, eNot, eTup, Sl.pur, Sl.full, g_is_form, fb_is_form, isi_tuple, is_tuple, isi_str, is_str, g_is_count, fb_is_count, isi_int, is_int, isi_bool, is_bool, eChain, c_MOST_REST]
theorem word_isw (n : Nat) (k : Int) : g_is_watcher (n + 1) [.str "all", .int k] = .ok (.bool false) := by
  simp [g_is_watcher, runB, fb_is_watcher, entry, sSeq, sRet, sIf, sNil, evM, eBin, eVar, eC, eUn, eCall, aAll, bVal, bOr, bNot, bC, eAnd, eNot, eTup, Sl.pur, Sl.full, g_is_form, fb_is_form, isi_tuple, is_tuple, isi_str, is_str]
theorem odd_isw (o : PyData) (ho : o ∈ odds) (n : Nat) (k : Int) (hk : k ≤ 3) : g_is_watcher (n + 2) [o, .int k] = .ok (.bool false) := by
  have hk4 : ¬ k = 4 := by omega
  have e1 := all_isw n (k + 1)
  have e2 := rest0_isw n (k + 1)
  have e3 := word_isw n (k + 1)
  rw [g_is_watcher]
  generalize hg : g_is_watcher (n + 1) = gg at e1 e2 e3 ⊢
  simp only [odds, List.mem_cons, List.not_mem_nil, or_false] at ho
  rcases ho with rfl | rfl | rfl | rfl | rfl | rfl | rfl | rfl | rfl | rfl | rfl | rfl | rfl | rfl | rfl | rfl | rfl | rfl | rfl | rfl <;>
    simp [runB, fb_is_watcher, entry, sSeq, sRet, sIf, sNil, evM, eBin, eVar, eC, eUn, eCall, aAll, bVal, bOr, bNot, bC, eAnd, eNot, eTup, Sl.pur, Sl.full, g_is_form, fb_is_form, isi_tuple, is_tuple, isi_str, is_str, g_is_count, fb_is_count, isi_int, is_int, isi_bool, is_bool, eChain, c_MOST_REST, c_MOST_FIRST, c_MOST_DEEP, in4, hk4, e1, e2, e3]
theorem told_bad (d : PyData) (h : g_is_watcher 6 [d, .int 1] = .ok (.bool false)) : g__law_told [d] = .ok (.str "BadSight") := by
  simp [g__law_told, runB, fb__law_told, entry, sTry, sRet, eCall, aAll, eVar, eC, Sl.pur, g_need_watcher, fb_need_watcher, sIf, bNot, bVal, Sl.full, h, sNil, sRaise, wdL]
theorem both_isw (a b : PyData) (n : Nat) (k : Int) (hk : ¬ k = 4) (v : Bool) (ha : g_is_watcher n [a, .int (k + 1)] = .ok (.bool v)) (hb : g_is_watcher n [a, .int (k + 1)] = .ok (.bool false) ∨ g_is_watcher n [b, .int (k + 1)] = .ok (.bool false)) :
    g_is_watcher (n + 1) [.tuple [.str "both", a, b], .int k] = .ok (.bool false) := by
  rw [g_is_watcher]
  generalize hg : g_is_watcher n = gg at ha hb ⊢
  rcases hb with hb | hb
  · simp [runB, fb_is_watcher, entry, sSeq, sRet, sIf, sNil, evM, eBin, eVar, eC, eUn, eCall, aAll, bVal, bOr, bNot, bC, eAnd, eNot, eTup, Sl.pur, Sl.full, g_is_form, fb_is_form, isi_tuple, is_tuple, isi_str, is_str, c_MOST_DEEP, hk, hb]
  · cases v <;>
    simp [runB, fb_is_watcher, entry, sSeq, sRet, sIf, sNil, evM, eBin, eVar, eC, eUn, eCall, aAll, bVal, bOr, bNot, bC, eAnd, eNot, eTup, Sl.pur, Sl.full, g_is_form, fb_is_form, isi_tuple, is_tuple, isi_str, is_str, c_MOST_DEEP, hk, ha, hb]
theorem odd_three (o : PyData) (ho : o ∈ odds) (w : Wt) (hw : w.ok) : g__law_told [o] = .ok (.str "BadSight") ∧ g__law_told [.tuple [.str "both", o, w.d]] = .ok (.str "BadSight") ∧
    g__law_told [.tuple [.str "both", .tuple [.str "both", .tuple [.str "all"], o], .tuple [.str "last"]]] = .ok (.str "BadSight") := by
  refine ⟨told_bad _ (odd_isw o ho 4 1 (by decide)), told_bad _ ?_, told_bad _ ?_⟩
  · exact both_isw _ _ 5 1 (by decide) false (odd_isw o ho 3 2 (by decide)) (.inl (odd_isw o ho 3 2 (by decide)))
  · have e := both_isw (.tuple [.str "all"]) o 4 2 (by decide) true (all_isw 3 3) (.inr (odd_isw o ho 2 3 (by decide)))
    exact both_isw _ _ 5 1 (by decide) false e (.inl e)

/-! the law -/
theorem wt_shp : ∀ w : Wt, Shp (w.h + 1) w.d
  | .all => shp_tuple (shpA_cons (shp_str _ (strOk_of _)) (shpA_nil _))
  | .last => shp_tuple (shpA_cons (shp_str _ (strOk_of _)) (shpA_nil _))
  | .count => shp_tuple (shpA_cons (shp_str _ (strOk_of _)) (shpA_nil _))
  | .steps => shp_tuple (shpA_cons (shp_str _ (strOk_of _)) (shpA_nil _))
  | .rest m => shp_tuple (shpA_cons (shp_str _ (strOk_of _)) (shpA_cons (shp_int _ _) (shpA_nil _)))
  | .first m => shp_tuple (shpA_cons (shp_str _ (strOk_of _)) (shpA_cons (shp_int _ _) (shpA_nil _)))
  | .both a b => shp_tuple (n := max a.h b.h + 1) (shpA_cons (shp_str _ (strOk_of _)) (shpA_cons ((wt_shp a).mono (by omega)) (shpA_cons ((wt_shp b).mono (by omega)) (shpA_nil _))))
theorem ints_shp {ds : List PyData} (h : ∀ d ∈ ds, ∃ i : Int, d = .int i) (n : Nat) : Shp (n + 1) (.tuple ds) := shp_tuple (shpA_of fun d hd => by
  obtain ⟨i, rfl⟩ := h d hd
  exact shp_int n i)
theorem see_shp (ts : List Int) (st : Int) : ∀ w : Wt, Shp (w.h + 1) (w.see ts st)
  | .all => ints_shp (fun d hd => by obtain ⟨i, _, rfl⟩ := List.mem_map.mp hd; exact ⟨i, rfl⟩) _
  | .last => ints_shp (fun d hd => by obtain ⟨i, _, rfl⟩ := List.mem_map.mp (List.mem_of_mem_drop hd); exact ⟨i, rfl⟩) _
  | .count => ints_shp (fun d hd => by simp only [List.mem_singleton] at hd; exact ⟨_, hd⟩) _
  | .steps => ints_shp (fun d hd => by simp only [List.mem_singleton] at hd; exact ⟨_, hd⟩) _
  | .rest m => ints_shp (fun d hd => by obtain ⟨i, _, rfl⟩ := List.mem_map.mp hd; exact ⟨i, rfl⟩) _
  | .first m => ints_shp (fun d hd => by obtain ⟨i, _, rfl⟩ := List.mem_map.mp (List.mem_of_mem_take hd); exact ⟨i, rfl⟩) _
  | .both a b => shp_tuple (n := max a.h b.h + 1) (shpA_cons ((see_shp ts st a).mono (by omega)) (shpA_cons ((see_shp ts st b).mono (by omega)) (shpA_nil _)))
def stk (p : Wt × Int) : PyData := .tuple [p.1.d, .int p.2]
theorem stk_shaped (st : List (Wt × Int)) (h : ∀ p ∈ st, p.1.h ≤ 10) : SeqAt.shaped (.list (st.map stk)) = true := shaped_of (n := 13) (shp_list (shpA_of fun d hd => by
  obtain ⟨p, hp, rfl⟩ := List.mem_map.mp hd
  exact shp_tuple (shpA_cons ((wt_shp p.1).mono (by have := h p hp; omega)) (shpA_cons (shp_int _ _) (shpA_nil _))))) (by decide)
def kids : Wt × Int → List (Wt × Int)
  | (.both a b, f) => [(a, f + 1), (b, f + 1)]
  | _ => []
section
variable (a0 a1 a2 a3 a4 a5 a6 a7 a8 a9 a12 : Sl)
theorem dfs_step (l : List (Wt × Int)) (p : Wt × Int) (wi : Int) (s13 s14 : Sl) (hl : l.length ≤ 1000) :
    lp_law_1 [a0, a1, a2, a3, a4, a5, a6, a7, a8, a9, .pu (.int wi), .ow (.list ((l ++ [p]).map stk)), a12, s13, s14] =
      .nx [a0, a1, a2, a3, a4, a5, a6, a7, a8, a9, .pu (.int (if p.2 > wi then p.2 else wi)), .ow (.list ((l ++ kids p).map stk)), a12, .pu p.1.d, .pu (.int p.2)] := by
  obtain ⟨w, f⟩ := p
  have hz : l.length + 2 < szl := Nat.lt_of_le_of_lt (show l.length + 2 ≤ 1002 by omega) (by decide)
  cases w <;> simp [lp_law_1, sSeq, sPopT, gT, setAll, stk, kids, sAsg, sIf, sNil, sFrz, frz, sOwn, evM, eBin, eVar, eC, eLst, eTup, eCall, aAll, bVal, Sl.pur, Sl.full, Wt.d, dAddL, hz]
theorem szs_pos : ∀ w : Wt, 1 ≤ w.sz
  | .both a b => by simp only [Wt.sz]; omega
  | .all => Nat.le_refl _
  | .last => Nat.le_refl _
  | .count => Nat.le_refl _
  | .steps => Nat.le_refl _
  | .rest _ => Nat.le_refl _
  | .first _ => Nat.le_refl _
def tot : List (Wt × Int) → Nat
  | [] => 0
  | p :: r => p.1.sz + tot r
theorem tot_app : ∀ a b : List (Wt × Int), tot (a ++ b) = tot a + tot b
  | [], b => by simp [tot]
  | p :: a, b => by simp only [List.cons_append, tot, tot_app a b]; omega
theorem len_tot : ∀ l : List (Wt × Int), l.length ≤ tot l
  | [] => Nat.le_refl _
  | p :: a => by have := szs_pos p.1; have := len_tot a; simp only [List.length_cons, tot]; omega
theorem kids_tot (p : Wt × Int) : tot (kids p) + 1 = p.1.sz := by
  obtain ⟨w, f⟩ := p
  cases w <;> simp [kids, tot, Wt.sz]
structure IsMx (r wi : Int) (st : List (Wt × Int)) : Prop where
  a : wi ≤ r
  b : ∀ p ∈ st, p.2 + p.1.h ≤ r
  c : r = wi ∨ ∃ p ∈ st, r = p.2 + p.1.h
theorem dfs (n : Nat) : ∀ (st : List (Wt × Int)) (wi : Int) (s13 s14 : Sl), tot st < n → n ≤ 1000 → (∀ p ∈ st, p.1.h ≤ 10) →
    ∃ r x13 x14, IsMx r wi st ∧ whileF (bVal (eBin dNe (eVar 11) (eLst []))) lp_law_1 n [a0, a1, a2, a3, a4, a5, a6, a7, a8, a9, .pu (.int wi), .ow (.list (st.map stk)), a12, s13, s14] = .nx [a0, a1, a2, a3, a4, a5, a6, a7, a8, a9, .pu (.int r), .ow (.list []), a12, x13, x14] := by
  induction n with
  | zero => intro st wi s13 s14 h; omega
  | succ n ih =>
    intro st wi s13 s14 h hn hh
    have hs := stk_shaped st hh
    rcases List.eq_nil_or_concat st with rfl | ⟨l, p, rfl⟩
    · refine ⟨wi, s13, s14, ⟨Int.le_refl _, by simp, .inl rfl⟩, ?_⟩
      simp [whileF, bVal, eBin, eVar, eLst, aAll, Sl.full, dNe_nil]
    · rw [List.concat_eq_append] at hh h hs ⊢
      rw [tot_app] at h
      have hp := hh p (by simp)
      have ht : tot [p] = p.1.sz := by simp [tot]
      have hk := kids_tot p
      have hlen := len_tot l
      have hkh : ∀ q ∈ kids p, q.1.h < p.1.h := by
        obtain ⟨w, f⟩ := p
        cases w <;> simp [kids, Wt.h] <;> omega
      obtain ⟨r, x13, x14, m, e⟩ := ih (l ++ kids p) (if p.2 > wi then p.2 else wi) (.pu p.1.d) (.pu (.int p.2)) (by rw [tot_app]; omega) (by omega) (fun q hq => by
        rcases List.mem_append.mp hq with hq | hq
        · exact hh q (by simp [hq])
        · have := hkh q hq; omega)
      refine ⟨r, x13, x14, ?_, ?_⟩
      · obtain ⟨ma, mb, mc⟩ := m
        have hpf : p.2 ≤ r ∧ wi ≤ r := by split at ma <;> omega
        have hph : p.2 + p.1.h ≤ r := by
          obtain ⟨w, f⟩ := p
          cases w with
          | both a b =>
            have h1 := mb (a, f + 1) (by simp [kids])
            have h2 := mb (b, f + 1) (by simp [kids])
            simp only [Wt.h] at *
            omega
          | _ => simp only [Wt.h]; omega
        refine ⟨hpf.2, fun q hq => ?_, ?_⟩
        · rcases List.mem_append.mp hq with hq | hq
          · exact mb q (by simp [hq])
          · simp only [List.mem_singleton] at hq; subst hq; exact hph
        · rcases mc with mc | ⟨q, hq, eq⟩
          · split at mc
            · rename_i hgt
              refine .inr ⟨p, by simp, ?_⟩
              have : 0 ≤ (p.1.h : Int) := by omega
              omega
            · exact .inl mc
          · rcases List.mem_append.mp hq with hq | hq
            · exact .inr ⟨q, by simp [hq], eq⟩
            · refine .inr ⟨p, by simp, ?_⟩
              obtain ⟨w, f⟩ := p
              cases w with
              | both a b =>
                simp only [kids, List.mem_cons, List.not_mem_nil, or_false] at hq
                simp only [Wt.h] at *
                rcases hq with rfl | rfl <;> simp only at eq <;> omega
              | _ => simp [kids] at hq
      · rw [whileF]
        have hd := dfs_step a0 a1 a2 a3 a4 a5 a6 a7 a8 a9 a12 l p wi s13 s14 (by omega)
        have hne : dNe (.list ((l ++ [p]).map stk)) (.list []) = .ok (.bool true) := by rw [dNe_nil _ hs]; simp
        generalize (l ++ [p]).map stk = L at hd hne ⊢
        simp [bVal, eBin, eVar, eLst, aAll, Sl.full, hne, hd]
        simpa using e
end
theorem watcher_ok (ns : List Int) (hl : ns.length ≤ 63) (d : Nat) : ∀ k : Int, 0 ≤ k → ∃ w : Wt, g__law_watcher (d + 2) [.list (ns.map .int), .int k, .int d] = .ok w.d ∧ w.ok ∧ w.h ≤ d := by
  induction d with
  | zero =>
    intro k hk
    obtain ⟨ce, hc⟩ := cell_ok ns hl k hk
    obtain ⟨m, hm, m0, m1⟩ := drawn_ok ce (k + 9)
    obtain ⟨x, ex, hx⟩ := dIx_any (xs := [Wt.all, .last, .count, .steps, .rest (1 + m / 64 % 5), .first (m / 64 % 4), .all, .rest 999, .first 40].map Wt.d) (i := m / 8 % 9) (by omega) (by simp; omega)
    obtain ⟨w, hw, rfl⟩ := List.mem_map.mp hx
    have hwk : w.ok ∧ w.h ≤ 0 := by
      simp only [List.mem_cons, List.not_mem_nil, or_false] at hw
      rcases hw with rfl | rfl | rfl | rfl | rfl | rfl | rfl | rfl | rfl <;> simp only [Wt.ok, Wt.h] <;> refine ⟨?_, Nat.le_refl _⟩ <;> first | trivial | omega
    refine ⟨w, ?_, hwk.1, hwk.2⟩
    simp only [List.map_cons, List.map_nil, Wt.d] at ex
    simp [g__law_watcher, runB, fb__law_watcher, entry, sSeq, sAsg, sRet, sIf, sNil, evM, eBin, eVar, eC, eCall, aAll, bVal, bAnd, bC, Sl.pur, Sl.full, hc, hm, dMod_int, dDiv_int, divOk_small, eTup, eLst, dAdd_list, ex]
  | succ d ih =>
    intro k hk
    obtain ⟨ce, hc⟩ := cell_ok ns hl k hk
    obtain ⟨m, hm, m0, m1⟩ := drawn_ok ce (k + 9)
    by_cases h5 : m % 5 = 0
    · obtain ⟨w1, e1, o1, h1⟩ := ih (3 * k + 1) (by omega)
      obtain ⟨w2, e2, o2, h2⟩ := ih (3 * k + 2) (by omega)
      refine ⟨.both w1 w2, ?_, ⟨o1, o2⟩, by simp only [Wt.h]; omega⟩
      rw [g__law_watcher]
      generalize hg : g__law_watcher (d + 2) = gg at e1 e2 ⊢
      have es : (d : Int) + 1 - 1 = d := by omega
      simp [runB, fb__law_watcher, entry, sSeq, sAsg, sRet, sIf, sNil, evM, eBin, eVar, eC, eCall, aAll, bVal, bAnd, bC, Sl.pur, Sl.full, hc, hm, dMod_int, dDiv_int, divOk_small, eTup, eLst, h5, dMul_int, mulOk_l, es, e1, e2, Wt.d]
    · obtain ⟨x, ex, hx⟩ := dIx_any (xs := [Wt.all, .last, .count, .steps, .rest (1 + m / 64 % 5), .first (m / 64 % 4), .all, .rest 999, .first 40].map Wt.d) (i := m / 8 % 9) (by omega) (by simp; omega)
      obtain ⟨w, hw, rfl⟩ := List.mem_map.mp hx
      have hwk : w.ok ∧ w.h ≤ 0 := by
        simp only [List.mem_cons, List.not_mem_nil, or_false] at hw
        rcases hw with rfl | rfl | rfl | rfl | rfl | rfl | rfl | rfl | rfl <;> simp only [Wt.ok, Wt.h] <;> refine ⟨?_, Nat.le_refl _⟩ <;> first | trivial | omega
      refine ⟨w, ?_, hwk.1, by omega⟩
      simp only [List.map_cons, List.map_nil, Wt.d] at ex
      simp [g__law_watcher, runB, fb__law_watcher, entry, sSeq, sAsg, sRet, sIf, sNil, evM, eBin, eVar, eC, eCall, aAll, bVal, bAnd, bC, Sl.pur, Sl.full, hc, hm, dMod_int, dDiv_int, divOk_small, eTup, eLst, dAdd_list, h5, ex]

/-! the turn -/
theorem trail_ok (m : Int) (a0 a1 a3 a4 a5 a6 a7 a8 a9 a10 a11 a12 a13 a14 : Option PyData) : ∀ ds : List PyData, (∀ d ∈ ds, ∃ i : Int, d = .int i) → ∃ ts : List Int, ts.length = ds.length ∧
    lcF (cN 9) bYes (eBin dMod (eCall g__law_drawn [(eVar 2), (eVar 9)]) (eC (.int 1000))) ds [a0, a1, some (.int m), a3, a4, a5, a6, a7, a8, a9, a10, a11, a12, a13, a14] = .ok (ts.map PyData.int)
  | [], _ => ⟨[], rfl, rfl⟩
  | d :: ds, h => by
    obtain ⟨i, rfl⟩ := h d List.mem_cons_self
    obtain ⟨ts, hl, e⟩ := trail_ok m a0 a1 a3 a4 a5 a6 a7 a8 a9 a10 a11 a12 a13 a14 ds fun x hx => h x (List.mem_cons_of_mem _ hx)
    obtain ⟨q, hq, _⟩ := drawn_ok m i
    refine ⟨q % 1000 :: ts, by simp [hl], ?_⟩
    rw [lcF]
    simp [cN, bYes, eBin, eCall, aAll, eVar, eC, hq, dMod_int, e]
theorem deep_step (w : Wt) (m : Int) (hm : 0 ≤ m) (a0 a1 a3 a4 a5 a6 a7 a9 a10 a11 a12 a13 a14 : Sl) : ∃ w2 : Wt, lp_law_0 [a0, a1, .pu (.int m), a3, a4, a5, a6, a7, .pu w.d, a9, a10, a11, a12, a13, a14] = .nx [a0, a1, .pu (.int m), a3, a4, a5, a6, a7, .pu w2.d, a9, a10, a11, a12, a13, a14] ∧ (w.ok → w2.ok) ∧ w2.h = w.h + 1 ∧ w2.sz = w.sz + 2 := by
  have h2 : (2 : Int) ^ 14 = 16384 := by decide
  have hp : dPow (.int 2) (.int 14) = .ok (.int 16384) := rfl
  have hz : m / 16384 % 2 = 0 ∨ m / 16384 % 2 = 1 := by omega
  rcases hz with hz | hz
  · refine ⟨.both .all w, ?_, fun h => ⟨trivial, h⟩, by simp [Wt.h], by simp only [Wt.sz]; omega⟩
    simp [lp_law_0, sAsg, evM, eBin, eVar, eC, eLst, eTup, aAll, Sl.pur, hp, dDiv_int, divOk_small, dMod_int, hz, Wt.d]
  · refine ⟨.both w .steps, ?_, fun h => ⟨h, trivial⟩, by simp [Wt.h], by simp only [Wt.sz]⟩
    simp [lp_law_0, sAsg, evM, eBin, eVar, eC, eLst, eTup, aAll, Sl.pur, hp, dDiv_int, divOk_small, dMod_int, hz, Wt.d]
theorem deep_ok (w : Wt) (m : Int) (hm : 0 ≤ m) (n : Nat) (hn : n ≤ 2) (a0 a1 a3 a4 a5 a6 a7 a9 a10 a11 a12 a13 a14 : Sl) : ∃ (w2 : Wt) (x9 : Sl), forF (gN 9) lp_law_0 (rngF 0 n) [a0, a1, .pu (.int m), a3, a4, a5, a6, a7, .pu w.d, a9, a10, a11, a12, a13, a14] = .nx [a0, a1, .pu (.int m), a3, a4, a5, a6, a7, .pu w2.d, x9, a10, a11, a12, a13, a14] ∧ (w.ok → w2.ok) ∧ w2.h = w.h + n ∧ w2.sz = w.sz + 2 * n := by
  have hc : n = 0 ∨ n = 1 ∨ n = 2 := by omega
  rcases hc with rfl | rfl | rfl
  · exact ⟨w, a9, rfl, fun h => h, by simp, by simp⟩
  · obtain ⟨w1, e1, o1, h1, s1⟩ := deep_step w m hm a0 a1 a3 a4 a5 a6 a7 (.pu (.int 0)) a10 a11 a12 a13 a14
    exact ⟨w1, .pu (.int 0), by simp [rngF, forF, gN, e1], o1, h1, by omega⟩
  · obtain ⟨w1, e1, o1, h1, s1⟩ := deep_step w m hm a0 a1 a3 a4 a5 a6 a7 (.pu (.int 0)) a10 a11 a12 a13 a14
    obtain ⟨w2, e2, o2, h2, s2⟩ := deep_step w1 m hm a0 a1 a3 a4 a5 a6 a7 (.pu (.int 1)) a10 a11 a12 a13 a14
    exact ⟨w2, .pu (.int 1), by simp [rngF, List.range_succ, forF, gN, e1, e2], fun h => o2 (o1 h), by omega, by omega⟩
theorem wt_sz : ∀ w : Wt, w.sz + 1 ≤ 2 ^ (w.h + 1)
  | .both a b => by
    have h1 := wt_sz a
    have h2 := wt_sz b
    have h3 : 2 ^ (a.h + 1) ≤ 2 ^ (max a.h b.h + 1) := Nat.pow_le_pow_right (by decide) (by omega)
    have h4 : 2 ^ (b.h + 1) ≤ 2 ^ (max a.h b.h + 1) := Nat.pow_le_pow_right (by decide) (by omega)
    simp only [Wt.sz, Wt.h]
    rw [Nat.pow_succ 2 (max a.h b.h + 1)]
    omega
  | .all => by decide
  | .last => by decide
  | .count => by decide
  | .steps => by decide
  | .rest _ => by simp [Wt.sz, Wt.h]
  | .first _ => by simp [Wt.sz, Wt.h]
theorem turn_ok (ns : List Int) (hl : ns.length ≤ 63) (k : Int) (hk : 0 ≤ k) (a2 a3 a4 a5 a6 a7 a8 a9 a10 a11 a12 a13 a14 : Sl) : ∃ y1 y2 y3 y4 y5 y6 y7 y8 y9 y10 y11 y12 y13 y14,
    lp_law_3 [.pu (.list (ns.map PyData.int)), .pu (.int k), a2, a3, a4, a5, a6, a7, a8, a9, a10, a11, a12, a13, a14] = .nx [.pu (.list (ns.map PyData.int)), y1, y2, y3, y4, y5, y6, y7, y8, y9, y10, y11, y12, y13, y14] := by
  obtain ⟨ce, hc⟩ := cell_ok ns hl k hk
  obtain ⟨m, hm, m0, m1⟩ := drawn_ok ce k
  obtain ⟨w, hw, wo, wh⟩ := watcher_ok ns hl 3 k hk
  have hw : g__law_watcher 5 [.list (ns.map .int), .int k, .int 3] = .ok w.d := hw
  obtain ⟨ts, tl, te⟩ := trail_ok m (some (.list (ns.map .int))) (some (.int k)) (some w.d) a4.pur a5.pur a6.pur a7.pur a8.pur a9.pur a10.pur a11.pur a12.pur a13.pur a14.pur (rngF 0 (m % 7).toNat) (fun d hd => by obtain ⟨i, rfl, _⟩ := mem_rngF hd; exact ⟨i, rfl⟩)
  have tl6 : ts.length ≤ 6 := by rw [tl]; simp [rngF]; omega
  have tsz : ts.length < szl := szl_big (by omega)
  have e1 := told_wt w wo
  rw [if_pos wh] at e1
  have e2 := seen_ok 5 w wo (by omega) ts (by omega) (m / 8 % 50)
  have e3 := lseen_ok 5 w wo (by omega) ts (by omega) (m / 8 % 50)
  have e4 := dNe_self (shaped_of (see_shp ts (m / 8 % 50) w) (by omega))
  obtain ⟨o, eo, ho⟩ := dIx_any (xs := odds) (i := m / 64 % 20) (by omega) (by simp [odds]; omega)
  obtain ⟨t1, t2, t3⟩ := odd_three o ho w wo
  have hm7 : -1000000 < m % 7 ∧ m % 7 < 1000000 := by omega
  have hm3 : -1000000 < m / 4096 % 3 ∧ m / 4096 % 3 < 1000000 := by omega
  obtain ⟨w2, x9, f1, f2, f3, f4⟩ := deep_ok w m m0 (m / 4096 % 3).toNat (by omega) (.pu (.list (ns.map .int))) (.pu (.int k)) (.pu w.d) (.pu (.tuple (ts.map .int))) (.pu (.int (m / 8 % 50))) (.pu (.list odds)) (.pu o) a9 a10 a11 a12 a13 a14
  have w2o := f2 wo
  have wsz := wt_sz w
  have w16 : 2 ^ (w.h + 1) ≤ 2 ^ 4 := Nat.pow_le_pow_right (by decide) (by omega)
  obtain ⟨r, x13, x14, mx, dd⟩ := dfs (.pu (.list (ns.map .int))) (.pu (.int k)) (.pu (.int m)) (.pu w.d) (.pu (.tuple (ts.map .int))) (.pu (.int (m / 8 % 50))) (.pu (.list odds)) (.pu o) (.pu w2.d) x9 a12 100 [(w2, 1)] 1 a13 a14 (by simp only [tot]; omega) (by decide) (fun p hp => by simp only [List.mem_singleton] at hp; subst hp; show w2.h ≤ 10; omega)
  have e5 := told_wt w2 w2o
  have hr : r = 1 + w2.h := by
    have b := mx.b (w2, 1) (by simp)
    rcases mx.c with h | ⟨p, hp, h⟩
    · simp only at b; omega
    · simp only [List.mem_singleton] at hp; subst hp; exact h
  have e6 : dNe (if w2.h ≤ 3 then .none else .str "BadSight") (if r > 4 then .str "BadSight" else .none) = .ok (.bool false) := by
    by_cases h : w2.h ≤ 3
    · rw [if_pos h, if_neg (by omega)]
      exact dNe_self shaped_none
    · rw [if_neg h, if_pos (by omega)]
      exact dNe_self (shaped_str _)
  have e7 : dIx (.list [.none, .str "BadSight"]) (.int (if 4 < r then 1 else 0)) = .ok (if r > 4 then .str "BadSight" else .none) := by
    by_cases h : 4 < r
    · rw [if_pos h, if_pos h]; rfl
    · rw [if_neg h, if_neg h]; rfl
  have eo : dIx (.list odds) (.int (m / 64 % 20)) = .ok o := eo
  have ol : odds.length = 20 := rfl
  have H : lp_law_3 [.pu (.list (ns.map PyData.int)), .pu (.int k), a2, a3, a4, a5, a6, a7, a8, a9, a10, a11, a12, a13, a14] = .nx [.pu (.list (ns.map PyData.int)), .pu (.int k), .pu (.int m), .pu w.d, .pu (.tuple (ts.map PyData.int)), .pu (.int (m / 8 % 50)), .pu (.list odds), .pu o, .pu w2.d, x9, .pu (.int r), .ow (.list []), .pu (.tuple [.str "both", .tuple [.str "both", .tuple [.str "all"], o], .tuple [.str "last"]]), x13, x14] := by
    unfold lp_law_3
    refine seq_nx (e := [.pu (.list (ns.map PyData.int)), .pu (.int k), .pu (.int m), a3, a4, a5, a6, a7, a8, a9, a10, a11, a12, a13, a14]) (by simp [sAsg, sRet, sIf, sNil, sOwn, sFor, sWhile, evM, eBin, eVar, eC, eUn, eCall, eLst, eTup, aAll, bVal, dMod_int, dDiv_int, divOk_small, hc, hm]) ?_
    refine seq_nx (e := [.pu (.list (ns.map PyData.int)), .pu (.int k), .pu (.int m), .pu w.d, a4, a5, a6, a7, a8, a9, a10, a11, a12, a13, a14]) (by simp [sAsg, sRet, sIf, sNil, sOwn, sFor, sWhile, evM, eBin, eVar, eC, eUn, eCall, eLst, eTup, aAll, bVal, dMod_int, dDiv_int, divOk_small, hw]) ?_
    refine seq_nx (e := [.pu (.list (ns.map PyData.int)), .pu (.int k), .pu (.int m), .pu w.d, .pu (.tuple (ts.map PyData.int)), a5, a6, a7, a8, a9, a10, a11, a12, a13, a14]) (by simp [sAsg, sRet, sIf, sNil, sOwn, sFor, sWhile, evM, eBin, eVar, eC, eUn, eCall, eLst, eTup, aAll, bVal, dMod_int, dDiv_int, divOk_small, eLc, iCall, rng1, hm7, te, lcE, tsz, gTuple]) ?_
    refine seq_nx (e := [.pu (.list (ns.map PyData.int)), .pu (.int k), .pu (.int m), .pu w.d, .pu (.tuple (ts.map PyData.int)), .pu (.int (m / 8 % 50)), a6, a7, a8, a9, a10, a11, a12, a13, a14]) (by simp [sAsg, sRet, sIf, sNil, sOwn, sFor, sWhile, evM, eBin, eVar, eC, eUn, eCall, eLst, eTup, aAll, bVal, dMod_int, dDiv_int, divOk_small]) ?_
    refine seq_nx (e := [.pu (.list (ns.map PyData.int)), .pu (.int k), .pu (.int m), .pu w.d, .pu (.tuple (ts.map PyData.int)), .pu (.int (m / 8 % 50)), a6, a7, a8, a9, a10, a11, a12, a13, a14]) (by simp [sAsg, sRet, sIf, sNil, sOwn, sFor, sWhile, evM, eBin, eVar, eC, eUn, eCall, eLst, eTup, aAll, bVal, dMod_int, dDiv_int, divOk_small, e1, isNone]) ?_
    refine seq_nx (e := [.pu (.list (ns.map PyData.int)), .pu (.int k), .pu (.int m), .pu w.d, .pu (.tuple (ts.map PyData.int)), .pu (.int (m / 8 % 50)), a6, a7, a8, a9, a10, a11, a12, a13, a14]) (by simp [sAsg, sRet, sIf, sNil, sOwn, sFor, sWhile, evM, eBin, eVar, eC, eUn, eCall, eLst, eTup, aAll, bVal, dMod_int, dDiv_int, divOk_small, e2, e3, e4]) ?_
    refine seq_nx (e := [.pu (.list (ns.map PyData.int)), .pu (.int k), .pu (.int m), .pu w.d, .pu (.tuple (ts.map PyData.int)), .pu (.int (m / 8 % 50)), .pu (.list (odds.take 5)), a7, a8, a9, a10, a11, a12, a13, a14]) (by simp [sAsg, sRet, sIf, sNil, sOwn, sFor, sWhile, evM, eBin, eVar, eC, eUn, eCall, eLst, eTup, aAll, bVal, dMod_int, dDiv_int, divOk_small, odds]) ?_
    refine seq_nx (e := [.pu (.list (ns.map PyData.int)), .pu (.int k), .pu (.int m), .pu w.d, .pu (.tuple (ts.map PyData.int)), .pu (.int (m / 8 % 50)), .pu (.list (odds.take 7)), a7, a8, a9, a10, a11, a12, a13, a14]) (by simp [sAsg, sRet, sIf, sNil, sOwn, sFor, sWhile, evM, eBin, eVar, eC, eUn, eCall, eLst, eTup, aAll, bVal, dMod_int, dDiv_int, divOk_small, odds, dAdd_list]) ?_
    refine seq_nx (e := [.pu (.list (ns.map PyData.int)), .pu (.int k), .pu (.int m), .pu w.d, .pu (.tuple (ts.map PyData.int)), .pu (.int (m / 8 % 50)), .pu (.list (odds.take 14)), a7, a8, a9, a10, a11, a12, a13, a14]) (by simp [sAsg, sRet, sIf, sNil, sOwn, sFor, sWhile, evM, eBin, eVar, eC, eUn, eCall, eLst, eTup, aAll, bVal, dMod_int, dDiv_int, divOk_small, odds, dAdd_list]) ?_
    refine seq_nx (e := [.pu (.list (ns.map PyData.int)), .pu (.int k), .pu (.int m), .pu w.d, .pu (.tuple (ts.map PyData.int)), .pu (.int (m / 8 % 50)), .pu (.list (odds.take 16)), a7, a8, a9, a10, a11, a12, a13, a14]) (by simp [sAsg, sRet, sIf, sNil, sOwn, sFor, sWhile, evM, eBin, eVar, eC, eUn, eCall, eLst, eTup, aAll, bVal, dMod_int, dDiv_int, divOk_small, odds, dAdd_list]) ?_
    refine seq_nx (e := [.pu (.list (ns.map PyData.int)), .pu (.int k), .pu (.int m), .pu w.d, .pu (.tuple (ts.map PyData.int)), .pu (.int (m / 8 % 50)), .pu (.list (odds.take 18)), a7, a8, a9, a10, a11, a12, a13, a14]) (by simp [sAsg, sRet, sIf, sNil, sOwn, sFor, sWhile, evM, eBin, eVar, eC, eUn, eCall, eLst, eTup, aAll, bVal, dMod_int, dDiv_int, divOk_small, odds, dAdd_list]) ?_
    refine seq_nx (e := [.pu (.list (ns.map PyData.int)), .pu (.int k), .pu (.int m), .pu w.d, .pu (.tuple (ts.map PyData.int)), .pu (.int (m / 8 % 50)), .pu (.list odds), a7, a8, a9, a10, a11, a12, a13, a14]) (by simp [sAsg, sRet, sIf, sNil, sOwn, sFor, sWhile, evM, eBin, eVar, eC, eUn, eCall, eLst, eTup, aAll, bVal, dMod_int, dDiv_int, divOk_small, odds, dAdd_list]) ?_
    refine seq_nx (e := [.pu (.list (ns.map PyData.int)), .pu (.int k), .pu (.int m), .pu w.d, .pu (.tuple (ts.map PyData.int)), .pu (.int (m / 8 % 50)), .pu (.list odds), .pu o, a8, a9, a10, a11, a12, a13, a14]) (by simp [sAsg, sRet, sIf, sNil, sOwn, sFor, sWhile, evM, eBin, eVar, eC, eUn, eCall, eLst, eTup, aAll, bVal, dMod_int, dDiv_int, divOk_small, eo, ol]) ?_
    refine seq_nx (e := [.pu (.list (ns.map PyData.int)), .pu (.int k), .pu (.int m), .pu w.d, .pu (.tuple (ts.map PyData.int)), .pu (.int (m / 8 % 50)), .pu (.list odds), .pu o, .pu w.d, a9, a10, a11, a12, a13, a14]) (by simp [sAsg, sRet, sIf, sNil, sOwn, sFor, sWhile, evM, eBin, eVar, eC, eUn, eCall, eLst, eTup, aAll, bVal, dMod_int, dDiv_int, divOk_small]) ?_
    refine seq_nx (e := [.pu (.list (ns.map PyData.int)), .pu (.int k), .pu (.int m), .pu w.d, .pu (.tuple (ts.map PyData.int)), .pu (.int (m / 8 % 50)), .pu (.list odds), .pu o, .pu w2.d, x9, a10, a11, a12, a13, a14]) (by simp [sAsg, sRet, sIf, sNil, sOwn, sFor, sWhile, evM, eBin, eVar, eC, eUn, eCall, eLst, eTup, aAll, bVal, dMod_int, dDiv_int, divOk_small, iCall, rng1, hm3, f1]) ?_
    refine seq_nx (e := [.pu (.list (ns.map PyData.int)), .pu (.int k), .pu (.int m), .pu w.d, .pu (.tuple (ts.map PyData.int)), .pu (.int (m / 8 % 50)), .pu (.list odds), .pu o, .pu w2.d, x9, .pu (.int 1), a11, a12, a13, a14]) (by simp [sAsg, sRet, sIf, sNil, sOwn, sFor, sWhile, evM, eBin, eVar, eC, eUn, eCall, eLst, eTup, aAll, bVal, dMod_int, dDiv_int, divOk_small]) ?_
    refine seq_nx (e := [.pu (.list (ns.map PyData.int)), .pu (.int k), .pu (.int m), .pu w.d, .pu (.tuple (ts.map PyData.int)), .pu (.int (m / 8 % 50)), .pu (.list odds), .pu o, .pu w2.d, x9, .pu (.int 1), .ow (.list [stk (w2, 1)]), a12, a13, a14]) (by simp [sAsg, sRet, sIf, sNil, sOwn, sFor, sWhile, evM, eBin, eVar, eC, eUn, eCall, eLst, eTup, aAll, bVal, dMod_int, dDiv_int, divOk_small, stk]) ?_
    refine seq_nx (e := [.pu (.list (ns.map PyData.int)), .pu (.int k), .pu (.int m), .pu w.d, .pu (.tuple (ts.map PyData.int)), .pu (.int (m / 8 % 50)), .pu (.list odds), .pu o, .pu w2.d, x9, .pu (.int r), .ow (.list []), a12, x13, x14]) (by simpa [sWhile] using dd) ?_
    refine seq_nx (e := [.pu (.list (ns.map PyData.int)), .pu (.int k), .pu (.int m), .pu w.d, .pu (.tuple (ts.map PyData.int)), .pu (.int (m / 8 % 50)), .pu (.list odds), .pu o, .pu w2.d, x9, .pu (.int r), .ow (.list []), a12, x13, x14]) (by simp [sAsg, sRet, sIf, sNil, sOwn, sFor, sWhile, evM, eBin, eVar, eC, eUn, eCall, eLst, eTup, aAll, bVal, dMod_int, dDiv_int, divOk_small, e5, e6, e7]) ?_
    simp [sFor, iSeq, eLst, eTup, aAll, eVar, eC, itemsOf, forF, gN, lp_law_2, sIf, bVal, eBin, eCall, sNil, t1, t2, t3]
  exact ⟨_, _, _, _, _, _, _, _, _, _, _, _, _, _, H⟩
theorem law_true (ns : List Int) (hl : ns.length ≤ 63) : g_law [.list (ns.map PyData.int)] = .ok (.bool true) := by
  generalize hr : (if (if (ns.length : Int) < 6 then (ns.length : Int) else 6) > 1 then (if (ns.length : Int) < 6 then (ns.length : Int) else 6) else 1) = r
  have hr1 : 1 ≤ r ∧ r ≤ 6 := by
    subst hr
    split <;> split at * <;> omega
  have hlo : -1000000 < r ∧ r < 1000000 := by omega
  obtain ⟨e, h1, b1, b2, b3, b4, b5, b6, b7, b8, b9, b10, b11, b12, b13, b14, rfl⟩ := forF_inv (tg := gN 1) (body := lp_law_3) (fun env => ∃ b1 b2 b3 b4 b5 b6 b7 b8 b9 b10 b11 b12 b13 b14, env = [.pu (.list (ns.map PyData.int)), b1, b2, b3, b4, b5, b6, b7, b8, b9, b10, b11, b12, b13, b14]) (rngF 0 r.toNat)
    [.pu (.list (ns.map PyData.int)), .no, .no, .no, .no, .no, .no, .no, .no, .no, .no, .no, .no, .no, .no] ⟨_, _, _, _, _, _, _, _, _, _, _, _, _, _, rfl⟩ (fun x hx env ⟨b1, b2, b3, b4, b5, b6, b7, b8, b9, b10, b11, b12, b13, b14, he⟩ => by
      obtain ⟨k, rfl, hk, _⟩ := mem_rngF hx
      subst he
      obtain ⟨y1, y2, y3, y4, y5, y6, y7, y8, y9, y10, y11, y12, y13, y14, h⟩ := turn_ok ns hl k hk b2 b3 b4 b5 b6 b7 b8 b9 b10 b11 b12 b13 b14
      exact ⟨_, _, rfl, h, _, _, _, _, _, _, _, _, _, _, _, _, _, _, rfl⟩)
  simp only [gt_iff_lt] at hr
  simp [g_law, runB, fb_law, entry, sSeq, sFor, sRet, iCall, rng1, eCall, aAll, eVar, eC, Sl.pur, Sl.full, hr, hlo, h1]
theorem all_mk {l : PySem.W.OpenLaw} {w : World} {K : PySem.W.Frag} {h : Heap} {mg : Str → Option Value} {fa : Addr} (X : K.In h) (G : h.Ns mainGlobals mg) (hfa : mg "law" = some (.ref fa))
    {f0 : Addr} {oc0 kV0 dc0 pm0 cd0 ct0 : Value} {od0 an0 : Option Addr} {sl0 : Array (Option Value)}
    (a0 : PySem.W.nsIn K mainGlobals "is_count" = some (some (.ref f0))) (l0 : K.lookup f0 = some ⟨oc0, od0, .func (PySem.W.fnOf "is_count" "is_count" (defArgs s_is_count) (defBody s_is_count) (defScope s_is_count) .none kV0 dc0 pm0 an0 cd0 ct0), sl0⟩) (c0 : PySem.W.codeIn K cd0 "is_count" = true) (k0 : PySem.W.keepIn K (.ref f0) = true)
    {f1 : Addr} {oc1 kV1 dc1 pm1 cd1 ct1 : Value} {od1 an1 : Option Addr} {sl1 : Array (Option Value)}
    (a1 : PySem.W.nsIn K mainGlobals "is_form" = some (some (.ref f1))) (l1 : K.lookup f1 = some ⟨oc1, od1, .func (PySem.W.fnOf "is_form" "is_form" (defArgs s_is_form) (defBody s_is_form) (defScope s_is_form) .none kV1 dc1 pm1 an1 cd1 ct1), sl1⟩) (c1 : PySem.W.codeIn K cd1 "is_form" = true) (k1 : PySem.W.keepIn K (.ref f1) = true)
    {f2 : Addr} {oc2 kV2 dc2 pm2 cd2 ct2 : Value} {od2 an2 : Option Addr} {sl2 : Array (Option Value)}
    (a2 : PySem.W.nsIn K mainGlobals "is_watcher" = some (some (.ref f2))) (l2 : K.lookup f2 = some ⟨oc2, od2, .func (PySem.W.fnOf "is_watcher" "is_watcher" (defArgs s_is_watcher) (defBody s_is_watcher) (defScope s_is_watcher) .none kV2 dc2 pm2 an2 cd2 ct2), sl2⟩) (c2 : PySem.W.codeIn K cd2 "is_watcher" = true) (k2 : PySem.W.keepIn K (.ref f2) = true)
    {f3 : Addr} {oc3 kV3 dc3 pm3 cd3 ct3 : Value} {od3 an3 : Option Addr} {sl3 : Array (Option Value)}
    (a3 : PySem.W.nsIn K mainGlobals "need_watcher" = some (some (.ref f3))) (l3 : K.lookup f3 = some ⟨oc3, od3, .func (PySem.W.fnOf "need_watcher" "need_watcher" (defArgs s_need_watcher) (defBody s_need_watcher) (defScope s_need_watcher) .none kV3 dc3 pm3 an3 cd3 ct3), sl3⟩) (c3 : PySem.W.codeIn K cd3 "need_watcher" = true) (k3 : PySem.W.keepIn K (.ref f3) = true)
    {f4 : Addr} {oc4 kV4 dc4 pm4 cd4 ct4 : Value} {od4 an4 : Option Addr} {sl4 : Array (Option Value)}
    (a4 : PySem.W.nsIn K mainGlobals "seen" = some (some (.ref f4))) (l4 : K.lookup f4 = some ⟨oc4, od4, .func (PySem.W.fnOf "seen" "seen" (defArgs s_seen) (defBody s_seen) (defScope s_seen) .none kV4 dc4 pm4 an4 cd4 ct4), sl4⟩) (c4 : PySem.W.codeIn K cd4 "seen" = true) (k4 : PySem.W.keepIn K (.ref f4) = true)
    {f5 : Addr} {oc5 kV5 dc5 pm5 cd5 ct5 : Value} {od5 an5 : Option Addr} {sl5 : Array (Option Value)}
    (a5 : PySem.W.nsIn K mainGlobals "_law_cell" = some (some (.ref f5))) (l5 : K.lookup f5 = some ⟨oc5, od5, .func (PySem.W.fnOf "_law_cell" "_law_cell" (defArgs s__law_cell) (defBody s__law_cell) (defScope s__law_cell) .none kV5 dc5 pm5 an5 cd5 ct5), sl5⟩) (c5 : PySem.W.codeIn K cd5 "_law_cell" = true) (k5 : PySem.W.keepIn K (.ref f5) = true)
    {f6 : Addr} {oc6 kV6 dc6 pm6 cd6 ct6 : Value} {od6 an6 : Option Addr} {sl6 : Array (Option Value)}
    (a6 : PySem.W.nsIn K mainGlobals "_law_drawn" = some (some (.ref f6))) (l6 : K.lookup f6 = some ⟨oc6, od6, .func (PySem.W.fnOf "_law_drawn" "_law_drawn" (defArgs s__law_drawn) (defBody s__law_drawn) (defScope s__law_drawn) .none kV6 dc6 pm6 an6 cd6 ct6), sl6⟩) (c6 : PySem.W.codeIn K cd6 "_law_drawn" = true) (k6 : PySem.W.keepIn K (.ref f6) = true)
    {f7 : Addr} {oc7 kV7 dc7 pm7 cd7 ct7 : Value} {od7 an7 : Option Addr} {sl7 : Array (Option Value)}
    (a7 : PySem.W.nsIn K mainGlobals "_law_word" = some (some (.ref f7))) (l7 : K.lookup f7 = some ⟨oc7, od7, .func (PySem.W.fnOf "_law_word" "_law_word" (defArgs s__law_word) (defBody s__law_word) (defScope s__law_word) .none kV7 dc7 pm7 an7 cd7 ct7), sl7⟩) (c7 : PySem.W.codeIn K cd7 "_law_word" = true) (k7 : PySem.W.keepIn K (.ref f7) = true)
    {f8 : Addr} {oc8 kV8 dc8 pm8 cd8 ct8 : Value} {od8 an8 : Option Addr} {sl8 : Array (Option Value)}
    (a8 : PySem.W.nsIn K mainGlobals "_law_seen" = some (some (.ref f8))) (l8 : K.lookup f8 = some ⟨oc8, od8, .func (PySem.W.fnOf "_law_seen" "_law_seen" (defArgs s__law_seen) (defBody s__law_seen) (defScope s__law_seen) .none kV8 dc8 pm8 an8 cd8 ct8), sl8⟩) (c8 : PySem.W.codeIn K cd8 "_law_seen" = true) (k8 : PySem.W.keepIn K (.ref f8) = true)
    {f9 : Addr} {oc9 kV9 dc9 pm9 cd9 ct9 : Value} {od9 an9 : Option Addr} {sl9 : Array (Option Value)}
    (a9 : PySem.W.nsIn K mainGlobals "_law_watcher" = some (some (.ref f9))) (l9 : K.lookup f9 = some ⟨oc9, od9, .func (PySem.W.fnOf "_law_watcher" "_law_watcher" (defArgs s__law_watcher) (defBody s__law_watcher) (defScope s__law_watcher) .none kV9 dc9 pm9 an9 cd9 ct9), sl9⟩) (c9 : PySem.W.codeIn K cd9 "_law_watcher" = true) (k9 : PySem.W.keepIn K (.ref f9) = true)
    {f10 : Addr} {oc10 kV10 dc10 pm10 cd10 ct10 : Value} {od10 an10 : Option Addr} {sl10 : Array (Option Value)}
    (a10 : PySem.W.nsIn K mainGlobals "_law_told" = some (some (.ref f10))) (l10 : K.lookup f10 = some ⟨oc10, od10, .func (PySem.W.fnOf "_law_told" "_law_told" (defArgs s__law_told) (defBody s__law_told) (defScope s__law_told) .none kV10 dc10 pm10 an10 cd10 ct10), sl10⟩) (c10 : PySem.W.codeIn K cd10 "_law_told" = true) (k10 : PySem.W.keepIn K (.ref f10) = true)
    {f11 : Addr} {oc11 kV11 dc11 pm11 cd11 ct11 : Value} {od11 an11 : Option Addr} {sl11 : Array (Option Value)}
    (a11 : PySem.W.nsIn K mainGlobals "law" = some (some (.ref f11))) (l11 : K.lookup f11 = some ⟨oc11, od11, .func (PySem.W.fnOf "law" "law" (defArgs s_law) (defBody s_law) (defScope s_law) .none kV11 dc11 pm11 an11 cd11 ct11), sl11⟩) (c11 : PySem.W.codeIn K cd11 "law" = true) (k11 : PySem.W.keepIn K (.ref f11) = true)
    (z_ValueError : PySem.W.nsIn K mainGlobals "ValueError" = some none)
    (z_bool : PySem.W.nsIn K mainGlobals "bool" = some none)
    (z_int : PySem.W.nsIn K mainGlobals "int" = some none)
    (z_isinstance : PySem.W.nsIn K mainGlobals "isinstance" = some none)
    (z_len : PySem.W.nsIn K mainGlobals "len" = some none)
    (z_max : PySem.W.nsIn K mainGlobals "max" = some none)
    (z_min : PySem.W.nsIn K mainGlobals "min" = some none)
    (z_range : PySem.W.nsIn K mainGlobals "range" = some none)
    (z_str : PySem.W.nsIn K mainGlobals "str" = some none)
    (z_sum : PySem.W.nsIn K mainGlobals "sum" = some none)
    (z_tuple : PySem.W.nsIn K mainGlobals "tuple" = some none)
    {t_MOST_DEEP : Tok} (q_MOST_DEEP : PySem.W.nsIn K mainGlobals "MOST_DEEP" = some (some (.int 4 t_MOST_DEEP)))
    {t_MOST_FIRST : Tok} (q_MOST_FIRST : PySem.W.nsIn K mainGlobals "MOST_FIRST" = some (some (.int 40 t_MOST_FIRST)))
    {t_MOST_REST : Tok} (q_MOST_REST : PySem.W.nsIn K mainGlobals "MOST_REST" = some (some (.int 999 t_MOST_REST)))
    {C_TellError : Addr} (h_TellError : PySem.W.nsIn K mainGlobals "TellError" = some (some (.ref C_TellError)))
    {C_BadHouse : Addr} (h_BadHouse : PySem.W.nsIn K mainGlobals "BadHouse" = some (some (.ref C_BadHouse)))
    {C_BadProgram : Addr} (h_BadProgram : PySem.W.nsIn K mainGlobals "BadProgram" = some (some (.ref C_BadProgram)))
    {C_BadSight : Addr} (h_BadSight : PySem.W.nsIn K mainGlobals "BadSight" = some (some (.ref C_BadSight)))
    {C_BadTable : Addr} (h_BadTable : PySem.W.nsIn K mainGlobals "BadTable" = some (some (.ref C_BadTable)))
    {C_BadWeights : Addr} (h_BadWeights : PySem.W.nsIn K mainGlobals "BadWeights" = some (some (.ref C_BadWeights)))
    {C_NotPlain : Addr} (h_NotPlain : PySem.W.nsIn K mainGlobals "NotPlain" = some (some (.ref C_NotPlain)))
    {C_TooMany : Addr} (h_TooMany : PySem.W.nsIn K mainGlobals "TooMany" = some (some (.ref C_TooMany)))
    (xt_BadHouse : PySem.W.typeIn K (.ref C_BadHouse) = some (.type "type")) (yd_BadHouse : PySem.W.hasDictIn K C_BadHouse = true)
    (xt_BadProgram : PySem.W.typeIn K (.ref C_BadProgram) = some (.type "type")) (yd_BadProgram : PySem.W.hasDictIn K C_BadProgram = true)
    (xt_BadSight : PySem.W.typeIn K (.ref C_BadSight) = some (.type "type")) (yd_BadSight : PySem.W.hasDictIn K C_BadSight = true)
    (xt_BadTable : PySem.W.typeIn K (.ref C_BadTable) = some (.type "type")) (yd_BadTable : PySem.W.hasDictIn K C_BadTable = true)
    (xt_BadWeights : PySem.W.typeIn K (.ref C_BadWeights) = some (.type "type")) (yd_BadWeights : PySem.W.hasDictIn K C_BadWeights = true)
    (xt_NotPlain : PySem.W.typeIn K (.ref C_NotPlain) = some (.type "type")) (yd_NotPlain : PySem.W.hasDictIn K C_NotPlain = true)
    (xt_TellError : PySem.W.typeIn K (.ref C_TellError) = some (.type "type")) (yd_TellError : PySem.W.hasDictIn K C_TellError = true)
    (xt_TooMany : PySem.W.typeIn K (.ref C_TooMany) = some (.type "type")) (yd_TooMany : PySem.W.hasDictIn K C_TooMany = true)
    (xq_BadSight : PySem.W.excIn K C_BadSight veB "ValueError.__new__" = true) (xk_BadSight : PySem.W.keepIn K (.ref C_BadSight) = true) (xs_BadSight : PySem.W.subIn K (.ref C_BadSight) (.type "BaseException") = some true)
    (yn : PySem.W.specialIn K (.builtin "object.__class__") "__get__" = some (some (.builtin "getset_descriptor.__get__"))) (yt : PySem.W.takesIn K (.builtin "object.__class__") = some true)
    (yg_BadSight : PySem.W.findIn K (.ref C_BadSight) "__getattribute__" = some (some (.builtin "BaseException.__getattribute__"))) (yk_BadSight : PySem.W.findIn K (.ref C_BadSight) "__getattr__" = some none) (ya_BadSight : PySem.W.findIn K (.ref C_BadSight) "__class__" = some (some (.builtin "object.__class__"))) (ym_BadSight : PySem.W.mroIn K C_BadSight (.type "object") = some true)
    (yn_BadSight_BadHouse : (C_BadSight == C_BadHouse) = false) (yi_BadSight_BadHouse : PySem.W.subIn K (.ref C_BadSight) (.ref C_BadHouse) = some false)
    (yn_BadSight_BadProgram : (C_BadSight == C_BadProgram) = false) (yi_BadSight_BadProgram : PySem.W.subIn K (.ref C_BadSight) (.ref C_BadProgram) = some false)
    (yn_BadSight_BadTable : (C_BadSight == C_BadTable) = false) (yi_BadSight_BadTable : PySem.W.subIn K (.ref C_BadSight) (.ref C_BadTable) = some false)
    (yn_BadSight_BadWeights : (C_BadSight == C_BadWeights) = false) (yi_BadSight_BadWeights : PySem.W.subIn K (.ref C_BadSight) (.ref C_BadWeights) = some false)
    (yn_BadSight_NotPlain : (C_BadSight == C_NotPlain) = false) (yi_BadSight_NotPlain : PySem.W.subIn K (.ref C_BadSight) (.ref C_NotPlain) = some false)
    (yn_BadSight_TooMany : (C_BadSight == C_TooMany) = false) (yi_BadSight_TooMany : PySem.W.subIn K (.ref C_BadSight) (.ref C_TooMany) = some false)
    (yv_BadSight : PySem.W.subIn K (.ref C_BadSight) (.type "ValueError") = some true) (yx_BadSight : PySem.W.subIn K (.ref C_BadSight) (.ref C_TellError) = some true)
    (ytb : PySem.W.subIn K (.ref C_TellError) (.type "BaseException") = some true)
    : ∃ (ec : Nat → Addr) (fd : FuncData), (∀ (s : Shared) (u : Value), BindsTo s fd ⟨[u], []⟩ [("script", u)]) ∧ ∀ base : Heap, K.In base → base.Ns mainGlobals mg → FnOk l.prog w K mg base (L2N.CX l.prog w) 10 fa fd ["script"] (spP K ec 1 g_law) := by
  have e := hfa.symm.trans (PySem.W.mg_of X G a11)
  cases e
  have T : Txt K mg (fun n => ([C_BadHouse, C_BadProgram, C_BadSight, C_BadTable, C_BadWeights, C_NotPlain, C_TooMany, 0, C_TellError] : List Addr).getD n 0) := ⟨PySem.W.mg_none_of X G z_ValueError, PySem.W.mg_none_of X G z_bool, PySem.W.mg_none_of X G z_int, PySem.W.mg_none_of X G z_isinstance, PySem.W.mg_none_of X G z_len, PySem.W.mg_none_of X G z_max, PySem.W.mg_none_of X G z_min, PySem.W.mg_none_of X G z_range, PySem.W.mg_none_of X G z_str, PySem.W.mg_none_of X G z_sum, PySem.W.mg_none_of X G z_tuple, globD_int (PySem.W.mg_of X G q_MOST_DEEP), globD_int (PySem.W.mg_of X G q_MOST_FIRST), globD_int (PySem.W.mg_of X G q_MOST_REST), ⟨PySem.W.mg_of X G h_BadSight, xq_BadSight, xk_BadSight, xs_BadSight, xt_BadSight⟩, PySem.W.mg_of X G h_TellError, PySem.W.mg_of X G h_BadHouse, PySem.W.mg_of X G h_BadProgram, PySem.W.mg_of X G h_BadSight, PySem.W.mg_of X G h_BadTable, PySem.W.mg_of X G h_BadWeights, PySem.W.mg_of X G h_NotPlain, PySem.W.mg_of X G h_TooMany, ⟨yg_BadSight, yk_BadSight, xs_BadSight, yd_BadSight, ya_BadSight, yn, yt, ym_BadSight⟩, kit_other yn_BadSight_BadHouse yd_BadHouse xt_BadHouse yi_BadSight_BadHouse, kit_other yn_BadSight_BadProgram yd_BadProgram xt_BadProgram yi_BadSight_BadProgram, kit_self, kit_other yn_BadSight_BadTable yd_BadTable xt_BadTable yi_BadSight_BadTable, kit_other yn_BadSight_BadWeights yd_BadWeights xt_BadWeights yi_BadSight_BadWeights, kit_other yn_BadSight_NotPlain yd_NotPlain xt_NotPlain yi_BadSight_NotPlain, kit_other yn_BadSight_TooMany yd_TooMany xt_TooMany yi_BadSight_TooMany, kit_ve yv_BadSight, (by intro c z hw; unfold wdL at hw; (split at hw; (rename_i hc; subst hc; exact PySem.W.exm_ref ytb yd_TellError xt_TellError yx_BadSight)); cases hw)⟩
  have F0 := fun_mk (st := s_is_count) l0 c0 k0
  have b0 := F0.binds (ps := ["thing", "least", "most"]) fun _ _ _ _ _ _ us hl => match us, hl with | [_, _, _], _ => rfl
  have F1 := fun_mk (st := s_is_form) l1 c1 k1
  have b1 := F1.binds (ps := ["thing", "size"]) fun _ _ _ _ _ _ us hl => match us, hl with | [_, _], _ => rfl
  have F2 := fun_mk (st := s_is_watcher) l2 c2 k2
  have b2 := F2.binds (ps := ["thing", "deep"]) fun _ _ _ _ _ _ us hl => match us, hl with | [_, _], _ => rfl
  have F3 := fun_mk (st := s_need_watcher) l3 c3 k3
  have b3 := F3.binds (ps := ["watcher"]) fun _ _ _ _ _ _ us hl => match us, hl with | [_], _ => rfl
  have F4 := fun_mk (st := s_seen) l4 c4 k4
  have b4 := F4.binds (ps := ["watcher", "trail", "steps"]) fun _ _ _ _ _ _ us hl => match us, hl with | [_, _, _], _ => rfl
  have F5 := fun_mk (st := s__law_cell) l5 c5 k5
  have b5 := F5.binds (ps := ["script", "k"]) fun _ _ _ _ _ _ us hl => match us, hl with | [_, _], _ => rfl
  have F6 := fun_mk (st := s__law_drawn) l6 c6 k6
  have b6 := F6.binds (ps := ["cell", "k"]) fun _ _ _ _ _ _ us hl => match us, hl with | [_, _], _ => rfl
  have F7 := fun_mk (st := s__law_word) l7 c7 k7
  have b7 := F7.binds (ps := ["e"]) fun _ _ _ _ _ _ us hl => match us, hl with | [_], _ => rfl
  have F8 := fun_mk (st := s__law_seen) l8 c8 k8
  have b8 := F8.binds (ps := ["watcher", "trail", "steps"]) fun _ _ _ _ _ _ us hl => match us, hl with | [_, _, _], _ => rfl
  have F9 := fun_mk (st := s__law_watcher) l9 c9 k9
  have b9 := F9.binds (ps := ["script", "k", "deep"]) fun _ _ _ _ _ _ us hl => match us, hl with | [_, _, _], _ => rfl
  have F10 := fun_mk (st := s__law_told) l10 c10 k10
  have b10 := F10.binds (ps := ["thing"]) fun _ _ _ _ _ _ us hl => match us, hl with | [_], _ => rfl
  have F11 := fun_mk (st := s_law) l11 c11 k11
  have b11 := F11.binds (ps := ["script"]) fun _ _ _ _ _ _ us hl => match us, hl with | [_], _ => rfl
  refine ⟨(fun n => ([C_BadHouse, C_BadProgram, C_BadSight, C_BadTable, C_BadWeights, C_NotPlain, C_TooMany, 0, C_TellError] : List Addr).getD n 0), PySem.W.fnOf "law" "law" (defArgs s_law) (defBody s_law) (defScope s_law) .none kV11 dc11 pm11 an11 cd11 ct11, fun s v => .of_eq rfl, fun base _ _ => ?_⟩
  have C_is_count : Cal l.prog w K mg base (fun n => ([C_BadHouse, C_BadProgram, C_BadSight, C_BadTable, C_BadWeights, C_NotPlain, C_TooMany, 0, C_TellError] : List Addr).getD n 0) "is_count" 3 1 g_is_count := cal_of F0 (PySem.W.mg_of X G a0) b0 (ok_is_count F0 T )
  have C_is_form : Cal l.prog w K mg base (fun n => ([C_BadHouse, C_BadProgram, C_BadSight, C_BadTable, C_BadWeights, C_NotPlain, C_TooMany, 0, C_TellError] : List Addr).getD n 0) "is_form" 2 1 g_is_form := cal_of F1 (PySem.W.mg_of X G a1) b1 (ok_is_form F1 T )
  have C_is_watcher : Cal l.prog w K mg base (fun n => ([C_BadHouse, C_BadProgram, C_BadSight, C_BadTable, C_BadWeights, C_NotPlain, C_TooMany, 0, C_TellError] : List Addr).getD n 0) "is_watcher" 2 7 (g_is_watcher 6) := cal_of F2 (PySem.W.mg_of X G a2) b2 (ok_is_watcher F2 T C_is_count C_is_form (PySem.W.mg_of X G a2) b2 6)
  have C_need_watcher : Cal l.prog w K mg base (fun n => ([C_BadHouse, C_BadProgram, C_BadSight, C_BadTable, C_BadWeights, C_NotPlain, C_TooMany, 0, C_TellError] : List Addr).getD n 0) "need_watcher" 1 8 g_need_watcher := cal_of F3 (PySem.W.mg_of X G a3) b3 (ok_need_watcher F3 T C_is_watcher)
  have C_seen : Cal l.prog w K mg base (fun n => ([C_BadHouse, C_BadProgram, C_BadSight, C_BadTable, C_BadWeights, C_NotPlain, C_TooMany, 0, C_TellError] : List Addr).getD n 0) "seen" 3 5 (g_seen 5) := cal_of F4 (PySem.W.mg_of X G a4) b4 (ok_seen F4 T  (PySem.W.mg_of X G a4) b4 5)
  have C__law_cell : Cal l.prog w K mg base (fun n => ([C_BadHouse, C_BadProgram, C_BadSight, C_BadTable, C_BadWeights, C_NotPlain, C_TooMany, 0, C_TellError] : List Addr).getD n 0) "_law_cell" 2 1 g__law_cell := cal_of F5 (PySem.W.mg_of X G a5) b5 (ok__law_cell F5 T )
  have C__law_drawn : Cal l.prog w K mg base (fun n => ([C_BadHouse, C_BadProgram, C_BadSight, C_BadTable, C_BadWeights, C_NotPlain, C_TooMany, 0, C_TellError] : List Addr).getD n 0) "_law_drawn" 2 1 g__law_drawn := cal_of F6 (PySem.W.mg_of X G a6) b6 (ok__law_drawn F6 T )
  have C__law_word : CalW l.prog w K mg base (fun n => ([C_BadHouse, C_BadProgram, C_BadSight, C_BadTable, C_BadWeights, C_NotPlain, C_TooMany, 0, C_TellError] : List Addr).getD n 0) "_law_word" 1 wdL := ⟨_, _, _, ok__law_word F7 T, (PySem.W.mg_of X G a7), k7, b7⟩
  have C__law_seen : Cal l.prog w K mg base (fun n => ([C_BadHouse, C_BadProgram, C_BadSight, C_BadTable, C_BadWeights, C_NotPlain, C_TooMany, 0, C_TellError] : List Addr).getD n 0) "_law_seen" 3 5 (g__law_seen 5) := cal_of F8 (PySem.W.mg_of X G a8) b8 (ok__law_seen F8 T  (PySem.W.mg_of X G a8) b8 5)
  have C__law_watcher : Cal l.prog w K mg base (fun n => ([C_BadHouse, C_BadProgram, C_BadSight, C_BadTable, C_BadWeights, C_NotPlain, C_TooMany, 0, C_TellError] : List Addr).getD n 0) "_law_watcher" 3 6 (g__law_watcher 5) := cal_of F9 (PySem.W.mg_of X G a9) b9 (ok__law_watcher F9 T C__law_cell C__law_drawn (PySem.W.mg_of X G a9) b9 5)
  have C__law_told : Cal l.prog w K mg base (fun n => ([C_BadHouse, C_BadProgram, C_BadSight, C_BadTable, C_BadWeights, C_NotPlain, C_TooMany, 0, C_TellError] : List Addr).getD n 0) "_law_told" 1 9 g__law_told := cal_of F10 (PySem.W.mg_of X G a10) b10 (ok__law_told F10 T C__law_word C_need_watcher)
  exact ok_law F11 T C__law_cell C__law_drawn C__law_seen C__law_told C__law_watcher C_seen
end My
open PySem PySem.W PyProof.Rows
set_option maxRecDepth 100000 in
set_option maxHeartbeats 0 in
theorem PySem.Challenge.cw_tellweight_k30_watchers_holds : PySem.Challenge.rw_tellweight_k30_watchers.Holds := by
  w_on; o_law; k_head; (case hw => w_witness2)
  k_fill
  refine PL.walk_D (l := PySem.Challenge.rw_tellweight_k30_watchers) (n := 63) (k := 10) (x := "script") (g := My.g_law) rfl (by decide) rfl ⟨rfl, by decide, by decide⟩ (fun w h Y => PySem.W.kIn_of Y) ?F My.law_true
  case F =>
    intro w mg fa h KX G hmg
    refine' My.all_mk KX G hmg ?a0 ?l0 ?c0 ?k0 ?a1 ?l1 ?c1 ?k1 ?a2 ?l2 ?c2 ?k2 ?a3 ?l3 ?c3 ?k3 ?a4 ?l4 ?c4 ?k4 ?a5 ?l5 ?c5 ?k5 ?a6 ?l6 ?c6 ?k6 ?a7 ?l7 ?c7 ?k7 ?a8 ?l8 ?c8 ?k8 ?a9 ?l9 ?c9 ?k9 ?a10 ?l10 ?c10 ?k10 ?a11 ?l11 ?c11 ?k11 ?z_ValueError ?z_bool ?z_int ?z_isinstance ?z_len ?z_max ?z_min ?z_range ?z_str ?z_sum ?z_tuple ?q_MOST_DEEP ?q_MOST_FIRST ?q_MOST_REST ?h_TellError ?h_BadHouse ?h_BadProgram ?h_BadSight ?h_BadTable ?h_BadWeights ?h_NotPlain ?h_TooMany ?xt_BadHouse ?yd_BadHouse ?xt_BadProgram ?yd_BadProgram ?xt_BadSight ?yd_BadSight ?xt_BadTable ?yd_BadTable ?xt_BadWeights ?yd_BadWeights ?xt_NotPlain ?yd_NotPlain ?xt_TellError ?yd_TellError ?xt_TooMany ?yd_TooMany ?xq_BadSight ?xk_BadSight ?xs_BadSight ?yn ?yt ?yg_BadSight ?yk_BadSight ?ya_BadSight ?ym_BadSight ?yn_BadSight_BadHouse ?yi_BadSight_BadHouse ?yn_BadSight_BadProgram ?yi_BadSight_BadProgram ?yn_BadSight_BadTable ?yi_BadSight_BadTable ?yn_BadSight_BadWeights ?yi_BadSight_BadWeights ?yn_BadSight_NotPlain ?yi_BadSight_NotPlain ?yn_BadSight_TooMany ?yi_BadSight_TooMany ?yv_BadSight ?yx_BadSight ?ytb
    (case a0 => k_is)
    (case l0 => k_is)
    (case c0 => k_is)
    (case k0 => k_is)
    (case a1 => k_is)
    (case l1 => k_is)
    (case c1 => k_is)
    (case k1 => k_is)
    (case a2 => k_is)
    (case l2 => k_is)
    (case c2 => k_is)
    (case k2 => k_is)
    (case a3 => k_is)
    (case l3 => k_is)
    (case c3 => k_is)
    (case k3 => k_is)
    (case a4 => k_is)
    (case l4 => k_is)
    (case c4 => k_is)
    (case k4 => k_is)
    (case a5 => k_is)
    (case l5 => k_is)
    (case c5 => k_is)
    (case k5 => k_is)
    (case a6 => k_is)
    (case l6 => k_is)
    (case c6 => k_is)
    (case k6 => k_is)
    (case a7 => k_is)
    (case l7 => k_is)
    (case c7 => k_is)
    (case k7 => k_is)
    (case a8 => k_is)
    (case l8 => k_is)
    (case c8 => k_is)
    (case k8 => k_is)
    (case a9 => k_is)
    (case l9 => k_is)
    (case c9 => k_is)
    (case k9 => k_is)
    (case a10 => k_is)
    (case l10 => k_is)
    (case c10 => k_is)
    (case k10 => k_is)
    (case a11 => k_is)
    (case l11 => k_is)
    (case c11 => k_is)
    (case k11 => k_is)
    (case z_ValueError => k_is)
    (case z_bool => k_is)
    (case z_int => k_is)
    (case z_isinstance => k_is)
    (case z_len => k_is)
    (case z_max => k_is)
    (case z_min => k_is)
    (case z_range => k_is)
    (case z_str => k_is)
    (case z_sum => k_is)
    (case z_tuple => k_is)
    (case q_MOST_DEEP => k_is)
    (case q_MOST_FIRST => k_is)
    (case q_MOST_REST => k_is)
    (case h_TellError => k_is)
    (case h_BadHouse => k_is)
    (case h_BadProgram => k_is)
    (case h_BadSight => k_is)
    (case h_BadTable => k_is)
    (case h_BadWeights => k_is)
    (case h_NotPlain => k_is)
    (case h_TooMany => k_is)
    (case xt_BadHouse => k_is)
    (case yd_BadHouse => k_is)
    (case xt_BadProgram => k_is)
    (case yd_BadProgram => k_is)
    (case xt_BadSight => k_is)
    (case yd_BadSight => k_is)
    (case xt_BadTable => k_is)
    (case yd_BadTable => k_is)
    (case xt_BadWeights => k_is)
    (case yd_BadWeights => k_is)
    (case xt_NotPlain => k_is)
    (case yd_NotPlain => k_is)
    (case xt_TellError => k_is)
    (case yd_TellError => k_is)
    (case xt_TooMany => k_is)
    (case yd_TooMany => k_is)
    (case xq_BadSight => k_exc)
    (case xk_BadSight => k_is)
    (case xs_BadSight => k_is)
    (case yn => k_is)
    (case yt => k_is)
    (case yg_BadSight => k_is)
    (case yk_BadSight => k_is)
    (case ya_BadSight => k_is)
    (case ym_BadSight => k_is)
    (case yn_BadSight_BadHouse => decide)
    (case yi_BadSight_BadHouse => k_is)
    (case yn_BadSight_BadProgram => decide)
    (case yi_BadSight_BadProgram => k_is)
    (case yn_BadSight_BadTable => decide)
    (case yi_BadSight_BadTable => k_is)
    (case yn_BadSight_BadWeights => decide)
    (case yi_BadSight_BadWeights => k_is)
    (case yn_BadSight_NotPlain => decide)
    (case yi_BadSight_NotPlain => k_is)
    (case yn_BadSight_TooMany => decide)
    (case yi_BadSight_TooMany => k_is)
    (case yv_BadSight => k_is)
    (case yx_BadSight => k_is)
    (case ytb => k_is)
#print axioms PySem.Challenge.cw_tellweight_k30_watchers_holds
