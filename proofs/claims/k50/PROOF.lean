import PyProof.Rows.All
import Wide.All
import OpenK.AllK
import Wide.FinOn
import HandS.Base
import HandS.Call
import HandS.List
import HandS.Comp
import HandS.Words
import HandS.WordsExc
import HandS.Exc
import HandS.ExcOwn
import HandS.Lambda
import HandS.ExcCtx
import HandS.Defaults
import HandS.HeadHook1
import HandS.HeadHook2
import HandS.Dict
import HandS.Iter
import HandS.TupAny
import HandS.Wide
import HandS.IsInst
import HandS.Conv
import HandS.Walk
import HandS.Zip
import HandS.Text
import HandS.SortInts
import HandS.TryOnly
import HandS.HeadHook4
import KE.SortData
import KE.DataMinMax
import KE.DataCmp
import HandS.SetFor
import HandS.Strs
import HandS.Style
import HandS.HeadWalk
import HandS.Hot
import HandS.HotCalls
import HandS.ExcIs
import PyProof.SumWalkG
import PyProof.SeqI3
import HandS.Deep
import HandS.NestedK
import HandS.TupMul
import KE.GoesEnum
import HandS.CallLocal
import KE.GoesRaise
import KE.GoesComp
import HandS.Ends
import HandS.More
import HandS.Head0
import HandS.Head1
import HandS.Head2
import HandS.HeadEnd
import HandS.HeadHook3
import PySem.Challenge.RW_beltlooks_k50_whole_texts
set_option Elab.async false
set_option linter.all false
set_option maxRecDepth 100000
set_option maxHeartbeats 8000000
set_option autoImplicit false
/-! the pure layer: deep data, readings by plain functions -/
namespace PX
open PySem PySem.Spec PyProof.Rows L2 LamX

/-! ### results -/
inductive Res (α : Type) where
  | stuck
  | exc (c : Str)
  | ok (a : α)
def Res.bind {α β : Type} (r : Res α) (f : α → Res β) : Res β := match r with
  | .stuck => .stuck
  | .exc c => .exc c
  | .ok a => f a
@[simp] theorem Res.bind_ok {α β : Type} (a : α) (f : α → Res β) : (Res.ok a).bind f = f a := rfl
@[simp] theorem Res.bind_exc {α β : Type} (c : Str) (f : α → Res β) : (Res.exc c : Res α).bind f = .exc c := rfl
@[simp] theorem Res.bind_stuck {α β : Type} (f : α → Res β) : (Res.stuck : Res α).bind f = .stuck := rfl
theorem Res.bind_assoc {α β γ : Type} (r : Res α) (f : α → Res β) (g : β → Res γ) : (r.bind f).bind g = r.bind fun a => (f a).bind g := by cases r <;> rfl

/-! ### deep data at a place -/
/-- a list that is never written again: frozen, or of the module -/
def SqF (K : PySem.W.Frag) (H : Hp) (a : Addr) (xs : List V) : Prop :=
  (∃ o, H a = some (.frz o (.lst xs))) ∨
    ∃ (o : Obj) (its : Array Value) (n : Nat), K.lookup a = some o ∧ o.cls = .type "list" ∧ o.dict = none ∧ o.data = .seq its n ∧ its.size ≤ sizeLine ∧ Vals xs its.toList
theorem SqF.l {K : PySem.W.Frag} {H : Hp} {a : Addr} {xs : List V} (h : SqF K H a xs) : SqL K H a xs := by
  rcases h with ⟨o, h⟩ | h
  · exact .inl (.inr ⟨o, h⟩)
  · exact .inr h
mutual
inductive Rp (K : PySem.W.Frag) (H : Hp) : V → PyData → Prop
  | non : Rp K H .non .none
  | bl (b : Bool) : Rp K H (.bl b) (.bool b)
  | int (i : Int) : Rp K H (.int i) (.int i)
  | str (x : Str) (h : PyData.strOk x = true) (z : x.length ≤ sizeLine) : Rp K H (.str x) (.str x)
  | lst {a : Addr} {xs : List V} {ds : List PyData} (s : SqF K H a xs) (r : Rps K H xs ds) (z : ds.length ≤ sizeLine) : Rp K H (.ref a) (.list ds)
  | tup {a : Addr} {xs : List V} {ds : List PyData} (s : SqT K H a xs) (r : Rps K H xs ds) (z : ds.length ≤ sizeLine) : Rp K H (.ref a) (.tuple ds)
inductive Rps (K : PySem.W.Frag) (H : Hp) : List V → List PyData → Prop
  | nil : Rps K H [] []
  | cons {v : V} {vs : List V} {d : PyData} {ds : List PyData} : Rp K H v d → Rps K H vs ds → Rps K H (v :: vs) (d :: ds)
end
/-- how heaps go on through an expression: all that is tracked stays, but the tables of code objects, which stay tables -/
def Up (T : List (Addr × Str)) (H H' : Hp) : Prop := ExtN H H' ∧ (Tabs T H → Tabs T H')
/-- .. through a statement: what can't change stays -/
structure Evo (T : List (Addr × Str)) (H H' : Hp) : Prop where
  tup : ∀ b xs, H b = some (.tup xs) → H' b = some (.tup xs)
  frz : ∀ b o u, H b = some (.frz o u) → H' b = some (.frz o u)
  tabs : Tabs T H → Tabs T H'
  ext : ∀ b φ, H b = some (.ext φ) → H' b = some (.ext φ)
section
variable {K : PySem.W.Frag} {T : List (Addr × Str)} {H H' H1 H2 : Hp} {a : Addr} {xs : List V}
theorem Up.refl (H : Hp) : Up T H H := ⟨ExtN.refl H, id⟩
theorem Up.trans (a : Up T H H1) (b : Up T H1 H2) : Up T H H2 := ⟨a.1.trans b.1, fun t => b.2 (a.2 t)⟩
theorem Up.of (e : ∀ b o, H b = some o → H' b = some o) : Up T H H' := ⟨ExtN.of e, fun t => t.ext e⟩
theorem Up.new {p : Addr} {o : HO} (h : H p = none) : Up T H (upd H p o) := Up.of fun b u e => by rw [upd_ne (ne_of_none e h)]; exact e
theorem Up.evo (u : Up T H H') : Evo T H H' := ⟨fun b xs e => u.1 b _ e (fun ps z => by cases z), fun b o x e => u.1 b _ e (fun ps z => by cases z), u.2, fun b x e => u.1 b _ e (fun ps z => by cases z)⟩
theorem Evo.refl (H : Hp) : Evo T H H := (Up.refl H).evo
theorem Evo.trans (a : Evo T H H1) (b : Evo T H1 H2) : Evo T H H2 := ⟨fun c xs e => b.tup c xs (a.tup c xs e), fun c o u e => b.frz c o u (a.frz c o u e), fun t => b.tabs (a.tabs t), fun c φ e => b.ext c φ (a.ext c φ e)⟩
theorem SqF.evo (u : Evo T H H') (h : SqF K H a xs) : SqF K H' a xs := by
  rcases h with ⟨o, h⟩ | h
  · exact .inl ⟨o, u.frz _ _ _ h⟩
  · exact .inr h
theorem SqT_evo (u : Evo T H H') (h : SqT K H a xs) : SqT K H' a xs := by
  rcases h with (h | ⟨o, h⟩) | h
  · exact .inl (.inl (u.tup _ _ h))
  · exact .inl (.inr ⟨o, u.frz _ _ _ h⟩)
  · exact .inr h
mutual
theorem Rp.evo (u : Evo T H H') : ∀ {d : PyData} {v : V}, Rp K H v d → Rp K H' v d
  | .none, _, h => by cases h; exact .non
  | .bool b, _, h => by cases h; exact .bl b
  | .int i, _, h => by cases h; exact .int i
  | .str x, _, h => by cases h with | str _ q z => exact .str x q z
  | .list ds, _, h => by cases h with | lst s r z => exact .lst (s.evo u) (Rps.evo u r) z
  | .tuple ds, _, h => by cases h with | tup s r z => exact .tup (SqT_evo u s) (Rps.evo u r) z
  | .dict _, _, h => by cases h
theorem Rps.evo (u : Evo T H H') : ∀ {ds : List PyData} {vs : List V}, Rps K H vs ds → Rps K H' vs ds
  | [], _, h => by cases h; exact .nil
  | d :: ds, _, h => by cases h with | cons a b => exact .cons (Rp.evo u a) (Rps.evo u b)
end
theorem Rp.up {d : PyData} {v : V} (u : Up T H H') (h : Rp K H v d) : Rp K H' v d := h.evo u.evo
theorem Rps.up {ds : List PyData} {vs : List V} (u : Up T H H') (h : Rps K H vs ds) : Rps K H' vs ds := h.evo u.evo
theorem Rps.len : ∀ {ds : List PyData} {vs : List V}, Rps K H vs ds → vs.length = ds.length
  | _, _, .nil => rfl
  | _, _, .cons _ r => congrArg (· + 1) (Rps.len r)
theorem Rps.get : ∀ {ds : List PyData} {vs : List V} {i : Nat} {v : V}, Rps K H vs ds → vs[i]? = some v → ∃ d, ds[i]? = some d ∧ Rp K H v d
  | _, _, _, _, .nil, e => by simp at e
  | _, _, 0, _, .cons r _, e => by simp at e; subst e; exact ⟨_, rfl, r⟩
  | _, _, i + 1, _, .cons _ r, e => by
    obtain ⟨d, h1, h2⟩ := Rps.get (i := i) r (by simpa using e)
    exact ⟨d, by simpa using h1, h2⟩
theorem Rps.get' : ∀ {ds : List PyData} {vs : List V} {i : Nat} {d : PyData}, Rps K H vs ds → ds[i]? = some d → ∃ v, vs[i]? = some v ∧ Rp K H v d
  | _, _, _, _, .nil, e => by simp at e
  | _, _, 0, _, .cons r _, e => by simp at e; subst e; exact ⟨_, rfl, r⟩
  | _, _, i + 1, _, .cons _ r, e => by
    obtain ⟨d, h1, h2⟩ := Rps.get' (i := i) r (by simpa using e)
    exact ⟨d, by simpa using h1, h2⟩
theorem Rps.append : ∀ {ds es : List PyData} {vs ws : List V}, Rps K H vs ds → Rps K H ws es → Rps K H (vs ++ ws) (ds ++ es)
  | _, _, _, _, .nil, s => s
  | _, _, _, _, .cons r t, s => .cons r (Rps.append t s)
theorem Rps.take : ∀ {ds : List PyData} {vs : List V} (n : Nat), Rps K H vs ds → Rps K H (vs.take n) (ds.take n)
  | _, _, 0, _ => .nil
  | _, _, _ + 1, .nil => .nil
  | _, _, n + 1, .cons r t => .cons r (Rps.take n t)
theorem Rps.drop : ∀ {ds : List PyData} {vs : List V} (n : Nat), Rps K H vs ds → Rps K H (vs.drop n) (ds.drop n)
  | _, _, 0, r => r
  | _, _, _ + 1, .nil => .nil
  | _, _, n + 1, .cons _ t => Rps.drop n t
mutual
theorem Rp.dp : ∀ {d : PyData} {v : V}, Rp K H v d → Dp K H v d ∧ d.canLay0 = true
  | .none, _, h => by cases h; exact ⟨.non, rfl⟩
  | .bool b, _, h => by cases h; exact ⟨.bl b, rfl⟩
  | .int i, _, h => by cases h; exact ⟨.int i, rfl⟩
  | .str x, _, h => by cases h with | str _ q z => exact ⟨.str x, q⟩
  | .list ds, _, h => by cases h with | lst s r z => obtain ⟨a, b⟩ := Rps.dp r; exact ⟨.lst s.l a, b⟩
  | .tuple ds, _, h => by cases h with | tup s r z => obtain ⟨a, b⟩ := Rps.dp r; exact ⟨.tup s a, b⟩
  | .dict _, _, h => by cases h
theorem Rps.dp : ∀ {ds : List PyData} {vs : List V}, Rps K H vs ds → DpAll K H vs ds ∧ PyData.canLayAll0 ds = true
  | [], _, h => by cases h; exact ⟨.nil, rfl⟩
  | d :: ds, _, h => by
    cases h with
    | cons a b =>
      obtain ⟨a1, a2⟩ := Rp.dp a
      obtain ⟨b1, b2⟩ := Rps.dp b
      exact ⟨.cons a1 b1, by show (PyData.canLay0 d && PyData.canLayAll0 ds) = true; rw [a2, b2]; rfl⟩
end
end

/-- nothing but a table may stand there -/
def Nt (H : Hp) (a : Addr) : Prop := ∀ o, H a = some o → ∃ ps, o = .tbl ps
/-! ### environments -/
/-- what is read, never written: a dict's keys; a function, with what is known of the heap as long as it may be called -/
inductive Fx where
  | ks (l : List Int)
  | fn (f : Addr) (I : Hp → Prop) (st : ∀ (T : List (Addr × Str)) (H H' : Hp), Evo T H H' → I H → I H')
def FdOk (p : Addr) (H : Hp) : Fx → Prop
  | .ks l => ∃ o us, H p = some (.frz o (.dK us)) ∧ us.map (·.1) = l.map (.inl ·)
  | .fn f I _ => p = f ∧ I H
theorem FdOk.evo {T : List (Addr × Str)} {p : Addr} {H H' : Hp} {x : Fx} (u : Evo T H H') (h : FdOk p H x) : FdOk p H' x := by
  cases x with
  | ks l =>
    obtain ⟨o, us, h1, h2⟩ := h
    exact ⟨o, us, u.frz _ _ _ h1, h2⟩
  | fn f I st => exact ⟨h.1, st _ _ _ u h.2⟩
inductive Sl where
  | d (x : PyData)
  | mu (xs : List PyData)
  | rf (a : Addr)
  | dk (kvs : List (Int × PyData))
  | fd (x : Fx)
/-- what a dict of ints holds -/
inductive Rks (K : PySem.W.Frag) (H : Hp) : List (Key × V) → List (Int × PyData) → Prop
  | nil : Rks K H [] []
  | cons {k : Int} {v : V} {us : List (Key × V)} {d : PyData} {kvs : List (Int × PyData)} : Rp K H v d → Rks K H us kvs → Rks K H ((.inl k, v) :: us) ((k, d) :: kvs)
abbrev Rho := List (Option Sl)
structure EOk (K : PySem.W.Frag) (T : List (Addr × Str)) (σ : L2.St) (H : Hp) (ρ : Rho) : Prop where
  len : σ.length = ρ.length
  tabs : Tabs T H
  at_ : ∀ (i : Nat) (d : PyData), ρ[i]? = some (some (.d d)) → ∃ v, σ[i]? = some (some v) ∧ Rp K H v d
  rf : ∀ (i : Nat) (a : Addr), ρ[i]? = some (some (.rf a)) → σ[i]? = some (some (.ref a))
  fd : ∀ (i : Nat) (x : Fx), ρ[i]? = some (some (.fd x)) → ∃ p, σ[i]? = some (some (.ref p)) ∧ FdOk p H x
structure SOk (K : PySem.W.Frag) (T : List (Addr × Str)) (H0 : Hp) (σ : L2.St) (H : Hp) (ρ : Rho) : Prop where
  e : EOk K T σ H ρ
  ext : ExtN H0 H
  mu : ∀ (i : Nat) (ds : List PyData), ρ[i]? = some (some (.mu ds)) → ∃ p vs, σ[i]? = some (some (.ref p)) ∧ H p = some (.lst vs) ∧ Rps K H vs ds ∧ Nt H0 p ∧
    ∀ (j : Nat) (ds' : List PyData), j ≠ i → ρ[j]? = some (some (.mu ds')) → σ[j]? ≠ some (some (.ref p))
  dk : ∀ (i : Nat) (kvs : List (Int × PyData)), ρ[i]? = some (some (.dk kvs)) → ∃ p us, σ[i]? = some (some (.ref p)) ∧ H p = some (.dK us) ∧ Rks K H us kvs ∧ Nt H0 p ∧
    ∀ (j : Nat) (kvs' : List (Int × PyData)), j ≠ i → ρ[j]? = some (some (.dk kvs')) → σ[j]? ≠ some (some (.ref p))
/-- the class of an exception -/
def clsV (K : PySem.W.Frag) (c : Str) : Value := .ref (He.ga K c)
/-- what is wanted of a result -/
def Post (K : PySem.W.Frag) (T : List (Addr × Str)) (E : XK) {α β : Type} (R : Hp → β → α → Prop) (r : Res α) (H : Hp) (Q : β → Hp → Prop) : Prop := match r with
  | .stuck => False
  | .exc c => ∀ H', Up T H H' → E (clsV K c) none H'
  | .ok a => ∀ b H', Up T H H' → R H' b a → Q b H'
section
variable {K : PySem.W.Frag} {T : List (Addr × Str)} {E : XK} {H H' H1 H2 : Hp} {σ : L2.St} {ρ : Rho}
theorem Rks.evo (u : Evo T H H') : ∀ {us : List (Key × V)} {kvs : List (Int × PyData)}, Rks K H us kvs → Rks K H' us kvs
  | _, _, .nil => .nil
  | _, _, .cons r q => .cons (r.evo u) (Rks.evo u q)
theorem Rks.keys : ∀ {us : List (Key × V)} {kvs : List (Int × PyData)}, Rks K H us kvs → us.map (·.1) = (kvs.map (·.1)).map (.inl ·)
  | _, _, .nil => rfl
  | _, _, .cons _ q => congrArg (_ :: ·) q.keys
theorem EOk.evo (s : EOk K T σ H ρ) (u : Evo T H H') : EOk K T σ H' ρ := ⟨s.len, u.tabs s.tabs, fun i d h => by
  obtain ⟨v, h1, h2⟩ := s.at_ i d h
  exact ⟨v, h1, h2.evo u⟩, s.rf, fun i ks h => by
  obtain ⟨p, h1, h2⟩ := s.fd i ks h
  exact ⟨p, h1, h2.evo u⟩⟩
theorem EOk.up (s : EOk K T σ H ρ) (u : Up T H H') : EOk K T σ H' ρ := s.evo u.evo
theorem SOk.up {H0 : Hp} (s : SOk K T H0 σ H ρ) (u : Up T H H') : SOk K T H0 σ H' ρ := ⟨s.e.up u, s.ext.trans u.1, fun i ds h => by
  obtain ⟨p, vs, h1, h2, h3, h4, h5⟩ := s.mu i ds h
  exact ⟨p, vs, h1, u.1 _ _ h2 (fun ps z => by cases z), h3.up u, h4, h5⟩, fun i kvs h => by
  obtain ⟨p, us, h1, h2, h3, h4, h5⟩ := s.dk i kvs h
  exact ⟨p, us, h1, u.1 _ _ h2 (fun ps z => by cases z), h3.evo u.evo, h4, h5⟩⟩
theorem Post.up {α β : Type} {R : Hp → β → α → Prop} {r : Res α} {Q : β → Hp → Prop} (h : Post K T E R r H Q) (u : Up T H H1) : Post K T E R r H1 Q := by
  cases r with
  | stuck => exact h
  | exc c => exact fun H' v => h H' (u.trans v)
  | ok a => exact fun b H' v => h b H' (u.trans v)
theorem Post.bind {α β γ δ : Type} {R : Hp → β → α → Prop} {R' : Hp → δ → γ → Prop} {r : Res α} {g : α → Res γ} {Q : δ → Hp → Prop} (h : Post K T E R' (r.bind g) H Q) :
    Post K T E R r H (fun b H1 => ∃ a, R H1 b a ∧ Up T H H1 ∧ Post K T E R' (g a) H1 Q) := by
  cases r with
  | stuck => exact h
  | exc c => exact h
  | ok a => exact fun b H' u q => ⟨a, q, u, Post.up h u⟩
theorem Post.imp {α β : Type} {R : Hp → β → α → Prop} {r : Res α} {Q Q' : β → Hp → Prop} (h : Post K T E R r H Q) (f : ∀ b H', Up T H H' → Q b H' → Q' b H') : Post K T E R r H Q' := by
  cases r with
  | stuck => exact h
  | exc c => exact h
  | ok a => exact fun b H' u q => f b H' u (h b H' u q)
theorem Post.go {α β : Type} {R : Hp → β → α → Prop} {a : α} {Q : β → Hp → Prop} (h : Post K T E R (.ok a) H Q) (u : Up T H H') {b : β} (q : R H' b a) : Q b H' := h b H' u q
end

/-! ### readings -/
section
variable (K : PySem.W.Frag) (T : List (Addr × Str)) (E : XK)
def tE (f : Rho → Res PyData) : TE := fun σ H Q => ∃ ρ, EOk K T σ H ρ ∧ Post K T E (Rp K) (f ρ) H Q
def tT (f : Rho → Res Bool) : TT := fun σ H Q => ∃ ρ, EOk K T σ H ρ ∧ Post K T E (fun _ b a => b = a) (f ρ) H Q
def tA (f : Rho → Res (List PyData)) : TA := fun σ H Q => ∃ ρ, EOk K T σ H ρ ∧ Post K T E (Rps K) (f ρ) H Q
end
def VE (X : Cx) (T : List (Addr × Str)) (E : XK) (e : Expr) (f : Rho → Res PyData) : Prop := PE X e (tE X.K T E f)
def VT (X : Cx) (T : List (Addr × Str)) (E : XK) (e : Expr) (f : Rho → Res Bool) : Prop := PT X e (tT X.K T E f)
def VW (X : Cx) (T : List (Addr × Str)) (E : XK) (e : Expr) (f : Rho → Res Bool) : Prop := PW X e (tT X.K T E f)
structure VA (X : Cx) (T : List (Addr × Str)) (E : XK) (es : List Expr) (f : Rho → Res (List PyData)) : Prop where
  pa : PA X es (tA X.K T E f)
  len : ∀ ρ ds, f ρ = .ok ds → ds.length = es.length
section
variable {X : Cx} {T : List (Addr × Str)} {E : XK} {e : Expr} {es : List Expr}
theorem PE.rd {t t' : TE} (h : PE X e t) (i : ∀ σ H Q, t' σ H Q → t σ H Q) : PE X e t' := ⟨fun pins s σ H Q I q => h.run pins s σ H Q I (i σ H Q q)⟩
theorem PT.rd {t t' : TT} (h : PT X e t) (i : ∀ σ H Q, t' σ H Q → t σ H Q) : PT X e t' := ⟨fun pins s σ H Q I q => h.run pins s σ H Q I (i σ H Q q)⟩
theorem PW.rd {t t' : TT} (h : PW X e t) (i : ∀ σ H Q, t' σ H Q → t σ H Q) : PW X e t' := ⟨fun wh pins s σ H Q I q => h.run wh pins s σ H Q I (i σ H Q q)⟩
theorem PA.rd {t t' : TA} (h : PA X es t) (i : ∀ σ H Q, t' σ H Q → t σ H Q) : PA X es t' := ⟨fun p pins s σ H Q I q => h.run p pins s σ H Q I (i σ H Q q)⟩
theorem PS.rd {st : Stmt} {t t' : TS} (h : PS X st t) (i : ∀ D σ H, t' D σ H → t D σ H) : PS X st t' := ⟨fun pins s σ H D I q => h.run pins s σ H D I (i D σ H q)⟩
theorem PSs.rd {st : List Stmt} {t t' : TS} (h : PSs X st t) (i : ∀ D σ H, t' D σ H → t D σ H) : PSs X st t' := ⟨fun pins s σ H D I q => h.run pins s σ H D I (i D σ H q)⟩
end

/-! ### a list is frozen: known to its object from now on -/
theorem HOk_freeze {P : Program} {w : World} {H : Hp} {h : Heap} {a : Addr} {xs : List V} {o : Obj} (ok : HOk P w H h) (e : H a = some (.lst xs)) (ho : h.get? a = some o) : HOk P w (upd H a (.frz o (.lst xs))) h := fun b u q => by
  by_cases hb : b = a
  · subst hb
    rw [upd_same] at q
    cases q
    exact ⟨ho, ok b _ e⟩
  · rw [upd_ne hb] at q
    refine (ok b u q).stay (fun _ _ _ z => z) (fun c z => ?_) (fun c ys z => ?_)
    · rw [upd_ne (fun y => by rw [y, e] at z; cases z)]
      exact z
    · rw [upd_ne (fun y => by rw [y, e] at z; cases z)]
      exact z
theorem Inv.freeze {X : Cx} {pins : List (Addr × Obj)} {σ : L2.St} {H : Hp} {s : Shared} {a : Addr} {xs : List V} (I : Inv X pins σ H s) (e : H a = some (.lst xs)) : ∃ o, Inv X pins σ (upd H a (.frz o (.lst xs))) s := by
  obtain ⟨_, its, n, _, ho⟩ := I.hok a _ e
  have nn : ∀ b, H b = none → b ≠ a := fun b z y => by rw [y, e] at z; cases z
  refine ⟨_, ⟨I.ok, I.os, I.bare, ⟨I.base.keep, I.base.slot, fun b o h1 h2 h3 => ?_, I.base.there, fun b ys h => ?_, fun b o u h => ?_, fun b ps h => ?_⟩, I.loc, I.cell, ?_, fun x c h => ?_, fun p hp => ?_, HOk_freeze I.hok e ho, I.len⟩⟩
  · have z := I.base.free b o h1 h2 h3
    rw [upd_ne (nn b z)]
    exact z
  · have z := I.base.tups b ys h
    rw [upd_ne (fun y => by rw [y, e] at z; cases z)]
    exact z
  · have z := I.base.frzs b o u h
    rw [upd_ne (fun y => by rw [y, e] at z; cases z)]
    exact z
  · obtain ⟨m, z⟩ := I.base.tbls b ps h
    exact ⟨m, by rw [upd_ne (fun y => by rw [y, e] at z; cases z)]; exact z⟩
  · rw [upd_ne (nn _ I.free)]
    exact I.free
  · rw [upd_ne (nn _ (I.freeC x c h))]
    exact I.freeC x c h
  · obtain ⟨h1, h2, h3⟩ := I.pin p hp
    exact ⟨h1, by rw [upd_ne (nn _ h2)]; exact h2, h3⟩
/-- Q at the heap, or at one where a list is frozen -/
def Fz (Q : Hp → Prop) (H : Hp) : Prop := Q H ∨ ∃ a xs, H a = some (.lst xs) ∧ ∀ o, Q (upd H a (.frz o (.lst xs)))
section
variable {X : Cx}
theorem PE.fz {e : Expr} {t : TE} (h : PE X e t) : PE X e (fun σ H Q => t σ H fun v H1 => Fz (Q v) H1) := ⟨fun pins s σ H Q I q =>
  thn (h.run pins s σ H _ I q) fun u s1 ⟨v, H1, I1, r, z⟩ => by
    rcases z with z | ⟨a, xs, e, z⟩
    · exact ⟨v, H1, I1, r, z⟩
    · obtain ⟨o, I2⟩ := Inv.freeze I1 e
      exact ⟨v, _, I2, r, z o⟩⟩
theorem PS.fz {st : Stmt} {t : TS} (h : PS X st t) : PS X st (fun D σ H => t { D with nx := fun σ' H' => Fz (D.nx σ') H' } σ H) := ⟨fun pins s σ H D I q =>
  thn (h.run pins s σ H _ I q) fun f s1 z => by
    cases f with
    | next =>
      obtain ⟨σ', H', I', z⟩ := z
      rcases z with z | ⟨a, xs, e, z⟩
      · exact ⟨σ', H', I', z⟩
      · obtain ⟨o, I2⟩ := Inv.freeze I' e
        exact ⟨σ', _, I2, z o⟩
    | brk => exact z
    | cont => exact z
    | ret v => exact z⟩
/-- ahead of a block -/
theorem PSs.fz0 {st : List Stmt} {t : TS} (h : PSs X st t) : PSs X st (fun D σ H => Fz (t D σ) H) := ⟨fun pins s σ H D I q => by
  rcases q with q | ⟨a, xs, e, q⟩
  · exact h.run pins s σ H D I q
  · obtain ⟨o, I2⟩ := Inv.freeze I e
    exact h.run pins s σ _ D I2 (q o)⟩
end
end PX

/-! the pure layer: expressions -/
namespace PX
open PySem PySem.Spec PyProof.Rows L2 LamX

/-! ### what is reckoned, on data -/
def rget (ρ : Rho) (i : Nat) : Res PyData := match ρ[i]? with
  | some (some (.d d)) => .ok d
  | _ => .stuck
def toB : PyData → Res Bool
  | .bool b => .ok b
  | _ => .stuck
def addD : PyData → PyData → Res PyData
  | .int i, .int j => .ok (.int (i + j))
  | .str x, .str y => if x.length + y.length ≤ sizeLine then .ok (.str (x ++ y)) else .stuck
  | .tuple xs, .tuple ys => if xs.length + ys.length ≤ sizeLine then .ok (.tuple (xs ++ ys)) else .stuck
  | .list xs, .list ys => if xs.length + ys.length ≤ sizeLine then .ok (.list (xs ++ ys)) else .stuck
  | _, _ => .stuck
def subD : PyData → PyData → Res PyData
  | .int i, .int j => .ok (.int (i - j))
  | _, _ => .stuck
def mulOk (i j : Int) : Bool := decide (i.natAbs < 2 ^ 64) || decide (j.natAbs < 2 ^ 64) || decide (i.natAbs.log2 + j.natAbs.log2 < 1000000)
def mulD : PyData → PyData → Res PyData
  | .int i, .int j => if mulOk i j = true then .ok (.int (i * j)) else .stuck
  | _, _ => .stuck
def fdivD : PyData → PyData → Res PyData
  | .int i, .int j => if 0 < j ∧ j.natAbs.log2 < 9000 then .ok (.int (i / j)) else .stuck
  | _, _ => .stuck
def modD : PyData → PyData → Res PyData
  | .int i, .int j => if 0 < j then .ok (.int (i % j)) else .stuck
  | _, _ => .stuck
def powD : PyData → PyData → Res PyData
  | .int i, .int j => if 0 ≤ j ∧ j ≤ 1000000 ∧ i.natAbs < 2 ^ 64 then .ok (.int (i ^ j.toNat)) else .stuck
  | _, _ => .stuck
def eqD (d e : PyData) : Res PyData := if min d.depth e.depth ≤ 64 then .ok (.bool (PyData.eqv d e)) else .stuck
def neD (d e : PyData) : Res PyData := if min d.depth e.depth ≤ 64 then .ok (.bool (!PyData.eqv d e)) else .stuck
def cmpI (p : Int → Int → Bool) : PyData → PyData → Res PyData
  | .int i, .int j => .ok (.bool (p i j))
  | _, _ => .stuck
abbrev ltI := cmpI fun i j => decide (i < j)
abbrev leI := cmpI fun i j => decide (i ≤ j)
abbrev gtI := cmpI fun i j => decide (j < i)
abbrev geI := cmpI fun i j => decide (j ≤ i)
def flatD : PyData → Bool
  | .none => true
  | .bool _ => true
  | .int _ => true
  | .str _ => true
  | _ => false
def inD : PyData → PyData → Res PyData
  | x, .tuple ys => if flatD x = true ∧ ys.all flatD = true then .ok (.bool (ys.any fun y => PyData.eqv y x)) else .stuck
  | x, .list ys => if flatD x = true ∧ ys.all flatD = true then .ok (.bool (ys.any fun y => PyData.eqv y x)) else .stuck
  | _, _ => .stuck
def notInD : PyData → PyData → Res PyData
  | x, .tuple ys => if flatD x = true ∧ ys.all flatD = true then .ok (.bool (!ys.any fun y => PyData.eqv y x)) else .stuck
  | x, .list ys => if flatD x = true ∧ ys.all flatD = true then .ok (.bool (!ys.any fun y => PyData.eqv y x)) else .stuck
  | _, _ => .stuck
def isNone : PyData → Bool
  | .none => true
  | _ => false
def negD : PyData → Res PyData
  | .int i => .ok (.int (-i))
  | _ => .stuck
def andR (r : Res PyData) (k : Res PyData) : Res PyData := r.bind fun d => (toB d).bind fun b => if b = true then k else .ok (.bool false)
def orR (r : Res PyData) (k : Res PyData) : Res PyData := r.bind fun d => (toB d).bind fun b => if b = true then .ok (.bool true) else k
def notR (r : Res PyData) : Res PyData := r.bind fun d => (toB d).bind fun b => .ok (.bool (!b))
def andT (r : Res Bool) (k : Res Bool) : Res Bool := r.bind fun b => if b = true then k else .ok false
def orT (r : Res Bool) (k : Res Bool) : Res Bool := r.bind fun b => if b = true then .ok true else k
def iteR {α : Type} (r : Res Bool) (k l : Res α) : Res α := r.bind fun b => if b = true then k else l
def idxD : PyData → PyData → Res PyData
  | .list xs, .int i => (match atI xs i with
    | some d => .ok d
    | none => .stuck)
  | .tuple xs, .int i => (match atI xs i with
    | some d => .ok d
    | none => .stuck)
  | _, _ => .stuck
def cutD {α : Type} (xs : List α) (lo hi : Option Int) : List α := (xs.drop (HT.sIx xs.length 0 lo)).take (HT.sIx xs.length xs.length hi - HT.sIx xs.length 0 lo)
def toI : PyData → Res Int
  | .int i => .ok i
  | _ => .stuck
def sliceD (lo hi : Option Int) : PyData → Res PyData
  | .list xs => .ok (.list (cutD xs lo hi))
  | .tuple xs => .ok (.tuple (cutD xs lo hi))
  | _ => .stuck

section
variable {X : Cx} {T : List (Addr × Str)} {E : XK} {a b c e : Expr} {fa fb fc f : Rho → Res PyData} {ta tb tc : Rho → Res Bool} {pos : Pos}

/-! ### names, constants -/
theorem v_var (i : Nat) {x : Str} (hN : X.N[i]? = some x := by rfl) (hv : Vis X.env.scope x := by first | exact Or.inl rfl | exact Or.inr (Or.inl rfl) | exact Or.inr (Or.inr rfl)) (hd : (x == ("__debug__" : Str)) = false := by decide)
    (hcd : (x == ("__classdict__" : Str)) = false := by decide) : VE X T E (.Name x pos) (fun ρ => rget ρ i) := by
  refine PE.rd (pe_var hN hv hd hcd) fun σ H Q ⟨ρ, S, h⟩ => ?_
  have h : Post X.K T E (Rp X.K) (rget ρ i) H Q := h
  unfold rget at h
  split at h
  · rename_i d e
    obtain ⟨v, h1, h2⟩ := S.at_ i d e
    exact ⟨v, h1, h v H (Up.refl H) h2⟩
  · exact h.elim
theorem v_c {d : PyData} {v : V} (h : PE X e (tC v)) (hr : ∀ H, Rp X.K H v d) : VE X T E e (fun _ => .ok d) :=
  PE.rd h fun σ H Q ⟨ρ, S, q⟩ => q v H (Up.refl H) (hr H)
theorem v_int {i : Int} {j : Nat} : VE X T E (.Constant (.int i) j pos) (fun _ => .ok (.int i)) := v_c pe_int fun _ => .int i
theorem v_bl {i : Bool} {j : Nat} : VE X T E (.Constant (.bool i) j pos) (fun _ => .ok (.bool i)) := v_c pe_bl fun _ => .bl i
theorem v_non {j : Nat} : VE X T E (.Constant .none j pos) (fun _ => .ok .none) := v_c pe_non fun _ => .non
theorem v_str {x : Str} {j : Nat} (h : PyData.strOk x = true := by decide +kernel) (z : x.length ≤ sizeLine := by decide +kernel) : VE X T E (.Constant (.str x) j pos) (fun _ => .ok (.str x)) := v_c pe_str fun _ => .str x h z
/-- a constant of the module -/
theorem v_gint {x : Str} {i : Int} (hg : Gl X x) (hm : ∃ t, X.mg x = some (.int i t)) (hd : (x == ("__debug__" : Str)) = false := by decide) : VE X T E (.Name x pos) (fun _ => .ok (.int i)) := by
  obtain ⟨t, hm⟩ := hm
  exact v_c (v := .int i) (pe_glob hg hm ⟨t, rfl⟩ hd) fun _ => .int i
theorem v_gstr {x z : Str} (hg : Gl X x) (hm : ∃ t, X.mg x = some (.str z t)) (h : PyData.strOk z = true := by decide +kernel) (hz : z.length ≤ sizeLine := by decide +kernel) (hd : (x == ("__debug__" : Str)) = false := by decide) : VE X T E (.Name x pos) (fun _ => .ok (.str z)) := by
  obtain ⟨t, hm⟩ := hm
  exact v_c (v := .str z) (pe_glob hg hm ⟨t, rfl⟩ hd) fun _ => .str z h hz

/-! ### two expressions and a rule over values -/
/-- the rule r serves what g says -/
def Serves (X : Cx) (T : List (Addr × Str)) (E : XK) (r : R2) (g : PyData → PyData → Res PyData) : Prop :=
  ∀ x y d d' H Q, Rp X.K H x d → Rp X.K H y d' → Post X.K T E (Rp X.K) (g d d') H Q → r x y H (fun v H1 => Fz (Q v) H1)
theorem tOp_of {r : R2} {g : PyData → PyData → Res PyData} (hs : Serves X T E r g) (σ : L2.St) (H : Hp) (Q : VK) (h : tE X.K T E (fun ρ => (fa ρ).bind fun d => (fb ρ).bind fun d' => g d d') σ H Q) :
    tOp r (tE X.K T E fa) (tE X.K T E fb) σ H (fun v H1 => Fz (Q v) H1) := by
  obtain ⟨ρ, S, h⟩ := h
  exact ⟨ρ, S, (Post.bind h).imp fun x H1 u1 ⟨d, rx, _, h3⟩ => ⟨ρ, S.up u1, (Post.bind h3).imp fun y H2 u2 ⟨d', ry, _, h4⟩ => hs x y d d' H2 Q (rx.up u2) ry h4⟩⟩
theorem v_bin {op : Operator} {r : R2} {g : PyData → PyData → Res PyData} (ho : OpR X (binaryOp op) r) (hs : Serves X T E r g) (ha : VE X T E a fa) (hb : VE X T E b fb) :
    VE X T E (.BinOp a op b pos) (fun ρ => (fa ρ).bind fun d => (fb ρ).bind fun d' => g d d') :=
  PE.rd (PE.fz (pe_op ho ha hb)) fun σ H Q h => tOp_of hs σ H Q h
theorem v_cmp {op : CmpOp} {r : R2} {g : PyData → PyData → Res PyData} (ho : OpR X (compareOp op) r) (hs : Serves X T E r g) (ha : VE X T E a fa) (hb : VE X T E b fb) (hm : behindInMarks op b = false := by first | exact nobehind _ (by decide) (by decide) | rfl) :
    VE X T E (.Compare a [op] [b] pos) (fun ρ => (fa ρ).bind fun d => (fb ρ).bind fun d' => g d d') :=
  PE.rd (PE.fz (pe_cmpR ho ha hb hm)) fun σ H Q h => tOp_of hs σ H Q h
/-- a rule that makes nothing new -/
def Serves0 (X : Cx) (T : List (Addr × Str)) (E : XK) (r : R2) (g : PyData → PyData → Res PyData) : Prop :=
  ∀ x y d d' H Q, Rp X.K H x d → Rp X.K H y d' → Post X.K T E (Rp X.K) (g d d') H Q → r x y H Q
theorem Serves0.s {r : R2} {g : PyData → PyData → Res PyData} (h : Serves0 X T E r g) : Serves X T E r g := fun x y d d' H Q rx ry p => h x y d d' H _ rx ry (Post.imp p fun b H' _ q => .inl q)
theorem tOp_of0 {r : R2} {g : PyData → PyData → Res PyData} (hs : Serves0 X T E r g) (σ : L2.St) (H : Hp) (Q : VK) (h : tE X.K T E (fun ρ => (fa ρ).bind fun d => (fb ρ).bind fun d' => g d d') σ H Q) :
    tOp r (tE X.K T E fa) (tE X.K T E fb) σ H Q := by
  obtain ⟨ρ, S, h⟩ := h
  exact ⟨ρ, S, (Post.bind h).imp fun x H1 u1 ⟨d, rx, _, h3⟩ => ⟨ρ, S.up u1, (Post.bind h3).imp fun y H2 u2 ⟨d', ry, _, h4⟩ => hs x y d d' H2 Q (rx.up u2) ry h4⟩⟩
/-- the reading of a test by a value's -/
theorem test_of {t : TE} (h : ∀ σ H Q, tE X.K T E f σ H Q → t σ H Q) (σ : L2.St) (H : Hp) (Q : Bool → Hp → Prop) (q : tT X.K T E (fun ρ => (f ρ).bind toB) σ H Q) : tTest t σ H Q := by
  obtain ⟨ρ, S, q⟩ := q
  refine h σ H _ ⟨ρ, S, (Post.bind q).imp fun v H1 u1 ⟨d, r, _, h3⟩ => ?_⟩
  cases d with
  | bool b =>
    cases r
    exact ⟨b, rfl, h3 b H1 (Up.refl H1) rfl⟩
  | _ => exact h3.elim
theorem vt_cmp {op : CmpOp} {r : R2} {g : PyData → PyData → Res PyData} (ho : OpR X (compareOp op) r) (hs : Serves0 X T E r g) (ha : VE X T E a fa) (hb : VE X T E b fb) (hm : behindInMarks op b = false := by first | exact nobehind _ (by decide) (by decide) | rfl) :
    VT X T E (.Compare a [op] [b] pos) (fun ρ => ((fa ρ).bind fun d => (fb ρ).bind fun d' => g d d').bind toB) :=
  PT.rd (pt_cmpR ho ha hb hm) fun σ H Q h => test_of (f := fun ρ => (fa ρ).bind fun d => (fb ρ).bind fun d' => g d d') (fun σ H Q h => tOp_of0 hs σ H Q h) σ H Q h
theorem vt_val (h : VE X T E e f) (he : ∀ whole, isTrue e X.env whole = (do let v ← whole; standAt e.pos; holding [v] (truthy v)) := by intro _; rfl) : VT X T E e (fun ρ => (f ρ).bind toB) :=
  PT.rd (pt_val h he) fun σ H Q h => test_of (f := f) (t := tE X.K T E f) (fun σ H Q h => h) σ H Q h

/-! ### arithmetic -/
theorem s_add : OpR X (binaryOp .Add) (fun x y H Q => rI0 (fun i j => .int (i + j)) x y H Q ∨ (∃ i j, x = .str i ∧ y = .str j ∧ i.length + j.length ≤ sizeLine ∧ Q (.str (i ++ j)) H) ∨ rCatA X.K x y H Q ∨
    (∃ l b xs zs, x = .ref l ∧ y = .ref b ∧ SqL X.K H l xs ∧ SqL X.K H b zs ∧ xs.length + zs.length ≤ sizeLine ∧ ∀ p, H p = none → Q (.ref p) (upd H p (.lst (xs ++ zs))))) := by
  refine OpR.or op_add (OpR.or op_add_str (OpR.or op_catA ?_))
  intro pins s σ H x y v u Q I rx ry h
  obtain ⟨l, b, xs, zs, rfl, rfl, hl, hb, hz, q⟩ := h
  cases rx
  cases ry
  obtain ⟨its, r1, ⟨⟨c1, d1, k1, sl1⟩, n1, ho1, e1, e2, e3⟩, _⟩ := I.list hl
  obtain ⟨its2, r2, ⟨⟨c2, d2, k2, sl2⟩, n2, ho2, g1, g2, g3⟩, _⟩ := I.list hb
  simp only at e1 e2 e3 g1 g2 g3
  subst e1 e2 e3 g1 g2 g3
  have hsz : its.toArray.size + its2.toArray.size ≤ sizeLine := by
    rw [List.size_toArray, List.size_toArray, ← r1.length, ← r2.length]
    exact hz
  refine concat_meets ⟨_, ho1, rfl⟩ ⟨_, ho2, rfl⟩ noFill_list_add seq_list_add PySem.F.slot_list_add PySem.F.entry_list_add (PySem.F.args_list_add_2 _ _) (list_addW l b _ _ n1 n2 none none sl1 sl2 hsz) ⟨ho1, ho2, ?_⟩
  have ea : its.toArray ++ its2.toArray = (its ++ its2).toArray := by simp
  rw [ea]
  exact ⟨.ref _, _, I.lnew (t' := s.toks) (r1.append r2) (by rw [List.length_append]; exact hz), rfl, q _ I.fresh⟩
theorem Rps.nil_iff {K : PySem.W.Frag} {H : Hp} {vs : List V} {ds : List PyData} (r : Rps K H vs ds) : vs = [] ↔ ds = [] := by
  cases r with
  | nil => exact ⟨fun _ => rfl, fun _ => rfl⟩
  | cons _ _ => exact ⟨(fun h => nomatch h), (fun h => nomatch h)⟩
/-- a new list that is frozen then -/
theorem fz_new {K : PySem.W.Frag} {T : List (Addr × Str)} {E : XK} {H : Hp} {Q : VK} {xs : List V} {ds : List PyData} (h : Post K T E (Rp K) (.ok (.list ds)) H Q) (r : Rps K H xs ds) (z : ds.length ≤ sizeLine) (p : Addr) (hp : H p = none) :
    Fz (Q (.ref p)) (upd H p (.lst xs)) := by
  refine .inr ⟨p, xs, upd_same, fun o => ?_⟩
  have u : Up T H (upd (upd H p (.lst xs)) p (.frz o (.lst xs))) := by
    rw [upd_upd]
    exact Up.new hp
  exact h (.ref p) _ u (.lst (.inl ⟨o, upd_same⟩) (r.up u) z)
theorem new_tup {K : PySem.W.Frag} {T : List (Addr × Str)} {E : XK} {H : Hp} {Q : VK} {xs : List V} {ds : List PyData} (h : Post K T E (Rp K) (.ok (.tuple ds)) H Q) (r : Rps K H xs ds) (z : ds.length ≤ sizeLine) (p : Addr) (hp : H p = none) :
    Q (.ref p) (upd H p (.tup xs)) := h (.ref p) _ (Up.new hp) (.tup (.of upd_same) (r.up (Up.new (T := T) hp)) z)
theorem n_add : Serves X T E (fun x y H Q => rI0 (fun i j => .int (i + j)) x y H Q ∨ (∃ i j, x = .str i ∧ y = .str j ∧ i.length + j.length ≤ sizeLine ∧ Q (.str (i ++ j)) H) ∨ rCatA X.K x y H Q ∨
    (∃ l b xs zs, x = .ref l ∧ y = .ref b ∧ SqL X.K H l xs ∧ SqL X.K H b zs ∧ xs.length + zs.length ≤ sizeLine ∧ ∀ p, H p = none → Q (.ref p) (upd H p (.lst (xs ++ zs))))) addD := by
  intro x y d d' H Q rx ry h
  unfold addD at h
  split at h
  · cases rx
    cases ry
    exact .inl ⟨_, _, rfl, rfl, .inl (h _ _ (Up.refl H) (.int _))⟩
  · rename_i i j
    cases rx with
    | str _ h1 z1 =>
      cases ry with
      | str _ h2 z2 =>
        split at h
        · rename_i hz
          refine .inr (.inl ⟨i, j, rfl, rfl, hz, .inl (h _ _ (Up.refl H) (.str _ ?_ ?_))⟩)
          · unfold PyData.strOk at h1 h2 ⊢
            show ((i.cps ++ j.cps).all _) = true
            rw [Array.all_append, h1, h2]
            rfl
          · show (i.cps ++ j.cps).size ≤ sizeLine
            rw [Array.size_append]
            exact hz
        · exact h.elim
  · rename_i xs ys
    cases rx with
    | tup s1 r1 z1 =>
      cases ry with
      | tup s2 r2 z2 =>
        split at h
        · rename_i hz
          refine .inr (.inr (.inl ⟨_, _, _, _, rfl, rfl, s1, s2, by rw [r1.len, r2.len]; exact hz, fun e => ?_, fun e1 e2 => ?_, fun e1 e2 p hp => ?_⟩))
          · have e' := r1.nil_iff.mp e
            rw [e', List.nil_append] at h
            exact .inl (h _ _ (Up.refl H) (.tup s2 r2 z2))
          · have e' := r2.nil_iff.mp e2
            rw [e', List.append_nil] at h
            exact .inl (h _ _ (Up.refl H) (.tup s1 r1 z1))
          · exact .inl (new_tup h (r1.append r2) (by rw [List.length_append]; exact hz) p hp)
        · exact h.elim
  · rename_i xs ys
    cases rx with
    | lst s1 r1 z1 =>
      cases ry with
      | lst s2 r2 z2 =>
        split at h
        · rename_i hz
          exact .inr (.inr (.inr ⟨_, _, _, _, rfl, rfl, s1.l, s2.l, by rw [r1.len, r2.len]; exact hz, fun p hp => fz_new h (r1.append r2) (by rw [List.length_append]; exact hz) p hp⟩))
        · exact h.elim
  · exact h.elim
theorem v_add (ha : VE X T E a fa) (hb : VE X T E b fb) : VE X T E (.BinOp a .Add b pos) (fun ρ => (fa ρ).bind fun d => (fb ρ).bind fun d' => addD d d') := v_bin s_add n_add ha hb
/-- ints alone -/
theorem n_int0 {g : Int → Int → V} {k : PyData → PyData → Res PyData} (hk : ∀ i j, k (.int i) (.int j) = .ok (match g i j with | .int z => .int z | .bl z => .bool z | _ => .none)) (hg : ∀ i j, (∃ z, g i j = .int z) ∨ ∃ z, g i j = .bl z)
    (hs : ∀ d d', (∀ i j, ¬ (d = .int i ∧ d' = .int j)) → k d d' = .stuck) : Serves0 X T E (rI0 g) k := by
  intro x y d d' H Q rx ry h
  by_cases hd : ∃ i j, d = .int i ∧ d' = .int j
  · obtain ⟨i, j, rfl, rfl⟩ := hd
    cases rx
    cases ry
    rw [hk] at h
    refine ⟨i, j, rfl, rfl, ?_⟩
    rcases hg i j with ⟨z, e⟩ | ⟨z, e⟩
    · rw [e] at h ⊢
      exact h _ _ (Up.refl H) (.int _)
    · rw [e] at h ⊢
      exact h _ _ (Up.refl H) (.bl _)
  · rw [hs d d' fun i j z => hd ⟨i, j, z⟩] at h
    exact h.elim
theorem n_intC {C : Int → Int → Prop} {g : Int → Int → Int} {k : PyData → PyData → Res PyData} (hk : ∀ i j, k (.int i) (.int j) = .stuck ∨ (C i j ∧ k (.int i) (.int j) = .ok (.int (g i j))))
    (hs : ∀ d d', (∀ i j, ¬ (d = .int i ∧ d' = .int j)) → k d d' = .stuck) : Serves0 X T E (rI C fun i j => .int (g i j)) k := by
  intro x y d d' H Q rx ry h
  by_cases hd : ∃ i j, d = .int i ∧ d' = .int j
  · obtain ⟨i, j, rfl, rfl⟩ := hd
    cases rx
    cases ry
    rcases hk i j with e | ⟨hc, e⟩
    · rw [e] at h
      exact h.elim
    · rw [e] at h
      exact ⟨i, j, rfl, rfl, hc, h _ _ (Up.refl H) (.int _)⟩
  · rw [hs d d' fun i j z => hd ⟨i, j, z⟩] at h
    exact h.elim
theorem v_sub (ha : VE X T E a fa) (hb : VE X T E b fb) : VE X T E (.BinOp a .Sub b pos) (fun ρ => (fa ρ).bind fun d => (fb ρ).bind fun d' => subD d d') :=
  v_bin op_sub (Serves0.s (n_int0 (fun _ _ => rfl) (fun _ _ => .inl ⟨_, rfl⟩) fun d d' h => by unfold subD; split <;> first | rfl | exact absurd ⟨rfl, rfl⟩ (h _ _))) ha hb
theorem s_mul : OpR X (binaryOp .Mult) (fun x y H Q => rI CMul (fun i j => .int (i * j)) x y H Q ∨ rI CMulW (fun i j => .int (i * j)) x y H Q) := OpR.or op_mul op_mulW
theorem v_mul (ha : VE X T E a fa) (hb : VE X T E b fb) : VE X T E (.BinOp a .Mult b pos) (fun ρ => (fa ρ).bind fun d => (fb ρ).bind fun d' => mulD d d') := by
  refine v_bin s_mul ?_ ha hb
  intro x y d d' H Q rx ry h
  unfold mulD at h
  split at h
  · rename_i i j
    cases rx
    cases ry
    split at h
    · rename_i ho
      have q := h _ _ (Up.refl H) (.int (i * j))
      unfold mulOk at ho
      simp only [Bool.or_eq_true, decide_eq_true_eq] at ho
      rcases ho with (ho | ho) | ho
      · exact .inl ⟨i, j, rfl, rfl, .inl ⟨by omega, by omega⟩, .inl q⟩
      · exact .inl ⟨i, j, rfl, rfl, .inr ⟨by omega, by omega⟩, .inl q⟩
      · exact .inr ⟨i, j, rfl, rfl, ho, .inl q⟩
    · exact h.elim
  · exact h.elim
theorem v_fdiv (ha : VE X T E a fa) (hb : VE X T E b fb) : VE X T E (.BinOp a .FloorDiv b pos) (fun ρ => (fa ρ).bind fun d => (fb ρ).bind fun d' => fdivD d d') :=
  v_bin op_fdivW (Serves0.s (n_intC (fun i j => by unfold fdivD; dsimp only; split <;> first | exact .inl rfl | exact .inr ⟨by assumption, rfl⟩) fun d d' h => by unfold fdivD; split <;> first | rfl | exact absurd ⟨rfl, rfl⟩ (h _ _))) ha hb
theorem v_mod (ha : VE X T E a fa) (hb : VE X T E b fb) : VE X T E (.BinOp a .Mod b pos) (fun ρ => (fa ρ).bind fun d => (fb ρ).bind fun d' => modD d d') :=
  v_bin op_mod (Serves0.s (n_intC (fun i j => by unfold modD; dsimp only; split <;> first | exact .inl rfl | exact .inr ⟨by assumption, rfl⟩) fun d d' h => by unfold modD; split <;> first | rfl | exact absurd ⟨rfl, rfl⟩ (h _ _))) ha hb
theorem v_pow (ha : VE X T E a fa) (hb : VE X T E b fb) : VE X T E (.BinOp a .Pow b pos) (fun ρ => (fa ρ).bind fun d => (fb ρ).bind fun d' => powD d d') :=
  v_bin op_pow (Serves0.s (n_intC (fun i j => by unfold powD; dsimp only; split <;> first | exact .inl rfl | exact .inr ⟨by assumption, rfl⟩) fun d d' h => by unfold powD; split <;> first | rfl | exact absurd ⟨rfl, rfl⟩ (h _ _))) ha hb
theorem v_neg (ha : VE X T E a fa) : VE X T E (.UnaryOp .USub a pos) (fun ρ => (fa ρ).bind negD) := by
  refine PE.rd (pe_un un_neg ha) fun σ H Q ⟨ρ, S, h⟩ => ⟨ρ, S, (Post.bind h).imp fun x H1 u1 ⟨d, rx, _, h3⟩ => ?_⟩
  cases d with
  | int i =>
    cases rx
    exact ⟨i, rfl, h3 _ _ (Up.refl H1) (.int _)⟩
  | _ => exact h3.elim

/-! ### comparisons -/
theorem n_cmpI {p : Int → Int → Bool} : Serves0 X T E (rI0 fun i j => .bl (p i j)) (cmpI p) := n_int0 (fun _ _ => rfl) (fun _ _ => .inr ⟨_, rfl⟩) fun d d' h => by unfold cmpI; split <;> first | rfl | exact absurd ⟨rfl, rfl⟩ (h _ _)
def rEqP (K : PySem.W.Frag) (neg : Bool) : R2 := fun x y H Q => ∃ d e, Dp K H x d ∧ Dp K H y e ∧ d.canLay0 = true ∧ e.canLay0 = true ∧ min d.depth e.depth ≤ 64 ∧ Q (.bl (if neg then !PyData.eqv d e else PyData.eqv d e)) H
theorem s_eq (hu : X.A.units + 64 < cLine) : OpR X (compareOp .Eq) (rEqP X.K false) := by
  intro pins s σ H x y v u Q I rx ry h
  obtain ⟨d, e, hd, he, sd, se, hm, q⟩ := h
  obtain ⟨as, r1⟩ := Dp.reads I d x v hd rx
  obtain ⟨bs, r2⟩ := Dp.reads I e y u he ry
  exact SeqAt.compareEq_reads r1 r2 sd se (by omega) ⟨.bl _, H, I, rfl, q⟩
theorem s_ne (hu : X.A.units + 64 < cLine) : OpR X (compareOp .NotEq) (rEqP X.K true) := by
  intro pins s σ H x y v u Q I rx ry h
  obtain ⟨d, e, hd, he, sd, se, hm, q⟩ := h
  obtain ⟨as, r1⟩ := Dp.reads I d x v hd rx
  obtain ⟨bs, r2⟩ := Dp.reads I e y u he ry
  exact SeqAt.compareNe_reads r1 r2 sd se (by omega) ⟨.bl _, H, I, rfl, q⟩
theorem n_eq : Serves0 X T E (rEqP X.K false) eqD := by
  intro x y d d' H Q rx ry h
  unfold eqD at h
  split at h
  · rename_i hm
    obtain ⟨a1, a2⟩ := rx.dp
    obtain ⟨b1, b2⟩ := ry.dp
    exact ⟨d, d', a1, b1, a2, b2, hm, h _ _ (Up.refl H) (.bl _)⟩
  · exact h.elim
theorem n_ne : Serves0 X T E (rEqP X.K true) neD := by
  intro x y d d' H Q rx ry h
  unfold neD at h
  split at h
  · rename_i hm
    obtain ⟨a1, a2⟩ := rx.dp
    obtain ⟨b1, b2⟩ := ry.dp
    exact ⟨d, d', a1, b1, a2, b2, hm, h _ _ (Up.refl H) (.bl _)⟩
  · exact h.elim
theorem flatD_V {K : PySem.W.Frag} {H : Hp} {v : V} {d : PyData} (r : Rp K H v d) (h : flatD d = true) : flatV v = true := by
  cases r <;> first | rfl | cases h
theorem flatD_Vs {K : PySem.W.Frag} {H : Hp} : ∀ {vs : List V} {ds : List PyData}, Rps K H vs ds → ds.all flatD = true → vs.all flatV = true
  | _, _, .nil, _ => rfl
  | _, _, .cons r t, h => by
    rw [List.all_cons, Bool.and_eq_true] at h
    rw [List.all_cons, flatD_V r h.1, flatD_Vs t h.2]
    rfl
theorem eqV_eqv {K : PySem.W.Frag} {H : Hp} {v w : V} {d e : PyData} (r : Rp K H v d) (q : Rp K H w e) (h : flatD d = true) (h' : flatD e = true) : eqV v w = PyData.eqv d e := by
  cases r <;> cases q <;> first | (cases h; done) | (cases h'; done) | rfl
theorem inV_eqv {K : PySem.W.Frag} {H : Hp} {w : V} {e : PyData} (q : Rp K H w e) (h' : flatD e = true) : ∀ {vs : List V} {ds : List PyData}, Rps K H vs ds → ds.all flatD = true → inV w vs = ds.any fun y => PyData.eqv y e
  | _, _, .nil, _ => rfl
  | _, _, .cons r t, h => by
    rw [List.all_cons, Bool.and_eq_true] at h
    have z := inV_eqv q h' t h.2
    unfold inV at z ⊢
    rw [List.any_cons, List.any_cons, z, eqV_eqv r q h.1 h']
theorem n_in : Serves0 X T E (rIn X.K false) inD := by
  intro x y d d' H Q rx ry h
  unfold inD at h
  split at h
  · cases ry with
    | tup s r z =>
      split at h
      · rename_i hf
        refine ⟨_, _, rfl, .inr s, flatD_V rx hf.1, flatD_Vs r hf.2, ?_⟩
        rw [inV_eqv rx hf.1 r hf.2]
        exact h _ _ (Up.refl H) (.bl _)
      · exact h.elim
  · cases ry with
    | lst s r z =>
      split at h
      · rename_i hf
        refine ⟨_, _, rfl, .inl s.l, flatD_V rx hf.1, flatD_Vs r hf.2, ?_⟩
        rw [inV_eqv rx hf.1 r hf.2]
        exact h _ _ (Up.refl H) (.bl _)
      · exact h.elim
  · exact h.elim
theorem n_notIn : Serves0 X T E (rIn X.K true) notInD := by
  intro x y d d' H Q rx ry h
  unfold notInD at h
  split at h
  · cases ry with
    | tup s r z =>
      split at h
      · rename_i hf
        refine ⟨_, _, rfl, .inr s, flatD_V rx hf.1, flatD_Vs r hf.2, ?_⟩
        rw [inV_eqv rx hf.1 r hf.2]
        exact h _ _ (Up.refl H) (.bl _)
      · exact h.elim
  · cases ry with
    | lst s r z =>
      split at h
      · rename_i hf
        refine ⟨_, _, rfl, .inl s.l, flatD_V rx hf.1, flatD_Vs r hf.2, ?_⟩
        rw [inV_eqv rx hf.1 r hf.2]
        exact h _ _ (Up.refl H) (.bl _)
      · exact h.elim
  · exact h.elim
theorem non_iff {K : PySem.W.Frag} {H : Hp} {v : V} {d : PyData} (r : Rp K H v d) : decide (v = .non) = isNone d := by
  cases r <;> first | rfl | exact decide_eq_false (fun h => by cases h)
theorem v_isN {j : Nat} {pos' : Pos} (ha : VE X T E a fa) : VE X T E (.Compare a [.Is] [.Constant .none j pos'] pos) (fun ρ => (fa ρ).bind fun d => .ok (.bool (isNone d))) :=
  PE.rd (pe_cmp (pc_isN ha) rfl) fun σ H Q ⟨ρ, S, h⟩ => ⟨ρ, S, (Post.bind h).imp fun x H1 u1 ⟨d, rx, _, h3⟩ => by
    rw [non_iff rx]
    exact h3 _ _ (Up.refl H1) (.bl _)⟩
theorem v_notN {j : Nat} {pos' : Pos} (ha : VE X T E a fa) : VE X T E (.Compare a [.IsNot] [.Constant .none j pos'] pos) (fun ρ => (fa ρ).bind fun d => .ok (.bool (!isNone d))) :=
  PE.rd (pe_cmp (pc_notN ha) rfl) fun σ H Q ⟨ρ, S, h⟩ => ⟨ρ, S, (Post.bind h).imp fun x H1 u1 ⟨d, rx, _, h3⟩ => by
    rw [non_iff rx]
    exact h3 _ _ (Up.refl H1) (.bl _)⟩
theorem vt_isN {j : Nat} {pos' : Pos} (ha : VE X T E a fa) : VT X T E (.Compare a [.Is] [.Constant .none j pos'] pos) (fun ρ => (fa ρ).bind fun d => .ok (isNone d)) :=
  PT.rd (pt_cmp (pc_isN ha) rfl) fun σ H Q ⟨ρ, S, h⟩ => ⟨ρ, S, (Post.bind h).imp fun x H1 u1 ⟨d, rx, _, h3⟩ => ⟨_, by rw [non_iff rx], h3 _ _ (Up.refl H1) rfl⟩⟩
theorem vt_notN {j : Nat} {pos' : Pos} (ha : VE X T E a fa) : VT X T E (.Compare a [.IsNot] [.Constant .none j pos'] pos) (fun ρ => (fa ρ).bind fun d => .ok (!isNone d)) :=
  PT.rd (pt_cmp (pc_notN ha) rfl) fun σ H Q ⟨ρ, S, h⟩ => ⟨ρ, S, (Post.bind h).imp fun x H1 u1 ⟨d, rx, _, h3⟩ => ⟨_, by rw [non_iff rx], h3 _ _ (Up.refl H1) rfl⟩⟩
/-- a op b op' c -/
def chR (p p' : PyData → PyData → Res PyData) (ra rb rc : Res PyData) : Res PyData := ra.bind fun d => rb.bind fun d' => (p d d').bind fun z => (toB z).bind fun k => if k = true then rc.bind fun d'' => p' d' d'' else .ok (.bool false)
theorem chain_of {r r' : R2} {p p' : PyData → PyData → Res PyData} (hs : Serves0 X T E r p) (hs' : Serves0 X T E r' p') (σ : L2.St) (H : Hp) (Q : VK) (h : tE X.K T E (fun ρ => chR p p' (fa ρ) (fb ρ) (fc ρ)) σ H Q) :
    tChain r r' (tE X.K T E fa) (tE X.K T E fb) (tE X.K T E fc) σ H Q := by
  obtain ⟨ρ, S, h⟩ := h
  refine ⟨ρ, S, (Post.bind h).imp fun x H1 u1 ⟨d, rx, _, h3⟩ => ⟨ρ, S.up u1, (Post.bind h3).imp fun y H2 u2 ⟨d', ry, _, h4⟩ => hs x y d d' H2 _ (rx.up u2) ry ((Post.bind h4).imp fun z H3 u3 ⟨k, rk, _, h5⟩ => ?_)⟩⟩
  cases k with
  | bool k =>
    cases rk
    refine ⟨k, rfl, ?_⟩
    cases k with
    | false => exact iteF (h5 _ _ (Up.refl H3) (.bl false))
    | true =>
      have h5 : Post X.K T E (Rp X.K) ((fc ρ).bind fun d'' => p' d' d'') H3 Q := h5
      exact iteT ⟨ρ, (S.up u1).up (u2.trans u3), (Post.bind h5).imp fun w H4 u4 ⟨d'', rw', _, h6⟩ => hs' y w d' d'' H4 Q (ry.up (u3.trans u4)) rw' h6⟩
  | _ => exact h5.elim
theorem v_chain {op op' : CmpOp} {r r' : R2} {p p' : PyData → PyData → Res PyData} (ho : OpR X (compareOp op) r) (ho' : OpR X (compareOp op') r') (hs : Serves0 X T E r p) (hs' : Serves0 X T E r' p') (ha : VE X T E a fa) (hb : VE X T E b fb) (hc : VE X T E c fc)
    (hm : lastMarks [op, op'] [b, c] = false := by with_unfolding_all rfl) : VE X T E (.Compare a [op, op'] [b, c] pos) (fun ρ => chR p p' (fa ρ) (fb ρ) (fc ρ)) :=
  PE.rd (pe_chain ho ho' ha hb hc hm) fun σ H Q h => chain_of hs hs' σ H Q h
theorem vt_chain {op op' : CmpOp} {r r' : R2} {p p' : PyData → PyData → Res PyData} (ho : OpR X (compareOp op) r) (ho' : OpR X (compareOp op') r') (hs : Serves0 X T E r p) (hs' : Serves0 X T E r' p') (ha : VE X T E a fa) (hb : VE X T E b fb) (hc : VE X T E c fc)
    (hm : lastMarks [op, op'] [b, c] = false := by with_unfolding_all rfl) : VT X T E (.Compare a [op, op'] [b, c] pos) (fun ρ => (chR p p' (fa ρ) (fb ρ) (fc ρ)).bind toB) :=
  PT.rd (pt_chain ho ho' ha hb hc hm) fun σ H Q h => test_of (f := fun ρ => chR p p' (fa ρ) (fb ρ) (fc ρ)) (fun σ H Q h => chain_of hs hs' σ H Q h) σ H Q h

/-! ### and, or, not, if -/
variable {rest : List Expr}
theorem v_one {op : BoolOp} (ha : VE X T E a fa) : VE X T E (.BoolOp op [a] pos) fa := pe_one ha
theorem v_and (ha : VE X T E a fa) (hb : VE X T E (.BoolOp .And (b :: rest) pos) fb) : VE X T E (.BoolOp .And (a :: b :: rest) pos) (fun ρ => andR (fa ρ) (fb ρ)) :=
  PE.rd (pe_and ha hb) fun σ H Q ⟨ρ, S, h⟩ => ⟨ρ, S, (Post.bind h).imp fun x H1 u1 ⟨d, rx, _, h3⟩ => by
    cases d with
    | bool k =>
      cases rx
      refine ⟨k, rfl, ?_⟩
      cases k with
      | false => exact iteF (h3 _ _ (Up.refl H1) (.bl false))
      | true => exact iteT ⟨ρ, S.up u1, h3⟩
    | _ => exact h3.elim⟩
theorem v_or (ha : VE X T E a fa) (hb : VE X T E (.BoolOp .Or (b :: rest) pos) fb) : VE X T E (.BoolOp .Or (a :: b :: rest) pos) (fun ρ => orR (fa ρ) (fb ρ)) :=
  PE.rd (pe_or ha hb) fun σ H Q ⟨ρ, S, h⟩ => ⟨ρ, S, (Post.bind h).imp fun x H1 u1 ⟨d, rx, _, h3⟩ => by
    cases d with
    | bool k =>
      cases rx
      refine ⟨k, rfl, ?_⟩
      cases k with
      | true => exact iteT (h3 _ _ (Up.refl H1) (.bl true))
      | false => exact iteF ⟨ρ, S.up u1, h3⟩
    | _ => exact h3.elim⟩
theorem v_not (ha : VE X T E a fa) : VE X T E (.UnaryOp .Not a pos) (fun ρ => notR (fa ρ)) :=
  PE.rd (pe_not ha) fun σ H Q ⟨ρ, S, h⟩ => ⟨ρ, S, (Post.bind h).imp fun x H1 u1 ⟨d, rx, _, h3⟩ => by
    cases d with
    | bool k =>
      cases rx
      exact ⟨k, rfl, h3 _ _ (Up.refl H1) (.bl _)⟩
    | _ => exact h3.elim⟩
theorem v_if (hc : VT X T E c tc) (ha : VE X T E a fa) (hb : VE X T E b fb) : VE X T E (.IfExp c a b pos) (fun ρ => iteR (tc ρ) (fa ρ) (fb ρ)) :=
  PE.rd (pe_ifExp hc ha hb) fun σ H Q ⟨ρ, S, h⟩ => ⟨ρ, S, (Post.bind h).imp fun k H1 u1 ⟨d, rx, _, h3⟩ => by
    subst rx
    cases k with
    | true => exact iteT ⟨ρ, S.up u1, h3⟩
    | false => exact iteF ⟨ρ, S.up u1, h3⟩⟩
theorem vw_and1 (ha : VT X T E a ta) : VW X T E (.BoolOp .And [a] pos) ta := pw_and1 ha
theorem vw_or1 (ha : VT X T E a ta) : VW X T E (.BoolOp .Or [a] pos) ta := pw_or1 ha
theorem vw_and (ha : VT X T E a ta) (hb : VW X T E (.BoolOp .And (b :: rest) pos) tb) : VW X T E (.BoolOp .And (a :: b :: rest) pos) (fun ρ => andT (ta ρ) (tb ρ)) :=
  PW.rd (pw_and ha hb) fun σ H Q ⟨ρ, S, h⟩ => ⟨ρ, S, (Post.bind h).imp fun k H1 u1 ⟨d, rx, _, h3⟩ => by
    subst rx
    cases k with
    | true => exact iteT ⟨ρ, S.up u1, h3⟩
    | false => exact iteF (h3 _ _ (Up.refl H1) rfl)⟩
theorem vw_or (ha : VT X T E a ta) (hb : VW X T E (.BoolOp .Or (b :: rest) pos) tb) : VW X T E (.BoolOp .Or (a :: b :: rest) pos) (fun ρ => orT (ta ρ) (tb ρ)) :=
  PW.rd (pw_or ha hb) fun σ H Q ⟨ρ, S, h⟩ => ⟨ρ, S, (Post.bind h).imp fun k H1 u1 ⟨d, rx, _, h3⟩ => by
    subst rx
    cases k with
    | false => exact iteF ⟨ρ, S.up u1, h3⟩
    | true => exact iteT (h3 _ _ (Up.refl H1) rfl)⟩
theorem vt_w (h : VW X T E e ta) : VT X T E e ta := PW.pt h
theorem vt_not (ha : VT X T E a ta) : VT X T E (.UnaryOp .Not a pos) (fun ρ => (ta ρ).bind fun b => .ok (!b)) :=
  PT.rd (pt_not ha) fun σ H Q ⟨ρ, S, h⟩ => ⟨ρ, S, (Post.bind h).imp fun k H1 u1 ⟨d, rx, _, h3⟩ => by
    subst rx
    exact h3 _ _ (Up.refl H1) rfl⟩

/-! ### argument lists, displays -/
variable {es : List Expr} {fs : Rho → Res (List PyData)}
theorem va_nil : VA X T E [] (fun _ => .ok []) := ⟨PA.rd pa_nil fun σ H Q ⟨ρ, S, h⟩ => h [] H (Up.refl H) .nil, fun ρ ds h => by cases h; rfl⟩
theorem va_cons (ha : VE X T E e f) (hr : VA X T E es fs) (hs : starEach (e :: es) X.env = (false, eval e X.env) :: starEach es X.env := by rfl) : VA X T E (e :: es) (fun ρ => (f ρ).bind fun d => (fs ρ).bind fun ds => .ok (d :: ds)) :=
  ⟨PA.rd (pa_cons ha hr.pa hs) fun σ H Q ⟨ρ, S, h⟩ => ⟨ρ, S, (Post.bind h).imp fun x H1 u1 ⟨d, rx, _, h3⟩ => ⟨ρ, S.up u1, (Post.bind h3).imp fun xs H2 u2 ⟨ds, rs, _, h4⟩ => h4 _ _ (Up.refl H2) (.cons (rx.up u2) rs)⟩⟩, fun ρ ds h => by
    cases e1 : f ρ with
    | ok d =>
      cases e2 : fs ρ with
      | ok ds' =>
        rw [e1, e2] at h
        cases h
        rw [List.length_cons, hr.len ρ ds' e2, List.length_cons]
      | _ => rw [e1, e2] at h; cases h
    | _ => rw [e1] at h; cases h⟩
theorem v_tup {x1 : Nat} (h : VA X T E es fs) (hz : es.length ≤ 1000 := by decide) : VE X T E (.Tuple es x1 pos) (fun ρ => (fs ρ).bind fun ds => .ok (.tuple ds)) :=
  PE.rd (pe_tup h.pa) fun σ H Q ⟨ρ, S, q⟩ => ⟨ρ, S, by
    dsimp only at q
    cases e : fs ρ with
    | stuck => rw [e] at q; exact q
    | exc c => rw [e] at q; exact q
    | ok ds =>
      rw [e] at q
      have hl : ds.length ≤ sizeLine := by rw [h.len ρ ds e, sizeLine_eq]; omega
      exact fun xs H1 u1 r => ⟨by rw [r.len]; exact hl, fun p hp => new_tup (Post.up q u1) r hl p hp⟩⟩
theorem v_lst (h : VA X T E es fs) (hz : es.length ≤ 1000 := by decide) : VE X T E (.List es pos) (fun ρ => (fs ρ).bind fun ds => .ok (.list ds)) :=
  PE.rd (PE.fz (pe_lst h.pa)) fun σ H Q ⟨ρ, S, q⟩ => ⟨ρ, S, by
    dsimp only at q
    cases e : fs ρ with
    | stuck => rw [e] at q; exact q
    | exc c => rw [e] at q; exact q
    | ok ds =>
      rw [e] at q
      have hl : ds.length ≤ sizeLine := by rw [h.len ρ ds e, sizeLine_eq]; omega
      exact fun xs H1 u1 r => ⟨by rw [r.len]; exact hl, fun p hp => fz_new (Post.up q u1) r hl p hp⟩⟩

/-! ### items, slices -/
theorem Rps.atI {K : PySem.W.Frag} {H : Hp} {vs : List V} {ds : List PyData} {i : Int} {d : PyData} (r : Rps K H vs ds) (h : L2.atI ds i = some d) : ∃ v, L2.atI vs i = some v ∧ Rp K H v d := by
  unfold L2.atI at h ⊢
  rw [r.len]
  cases e : ixN ds.length i with
  | none => rw [e] at h; cases h
  | some j =>
    rw [e] at h
    exact r.get' h
theorem v_ix (ha : VE X T E a fa) (hb : VE X T E b fb) (hs : PlainIx b := by intro _ _; rfl) : VE X T E (.Subscript a b pos) (fun ρ => (fa ρ).bind fun d => (fb ρ).bind fun d' => idxD d d') :=
  PE.rd (pe_ix ix_seq ha hb hs) fun σ H Q h => tOp_of0 (g := idxD) (fun x y d d' H Q rx ry h => by
    unfold idxD at h
    split at h
    · rename_i xs i
      cases rx with
      | lst s r z =>
        cases ry
        split at h
        · rename_i v e
          obtain ⟨w, h1, h2⟩ := r.atI e
          exact .inl ⟨_, _, _, w, rfl, rfl, s.l, h1, h _ _ (Up.refl H) h2⟩
        · exact h.elim
    · rename_i xs i
      cases rx with
      | tup s r z =>
        cases ry
        split at h
        · rename_i v e
          obtain ⟨w, h1, h2⟩ := r.atI e
          exact .inr (.inl ⟨_, _, _, w, rfl, rfl, s, h1, h _ _ (Up.refl H) h2⟩)
        · exact h.elim
    · exact h.elim) σ H Q h
/-- a part of a slice -/
def tO (K : PySem.W.Frag) (T : List (Addr × Str)) (E : XK) (f : Rho → Res (Option Int)) : TO := fun σ H Q => ∃ ρ, EOk K T σ H ρ ∧ Post K T E (fun _ b a => b = a) (f ρ) H Q
def VO (X : Cx) (T : List (Addr × Str)) (E : XK) (e : Option Expr) (f : Rho → Res (Option Int)) : Prop := PO X e (tO X.K T E f)
theorem PO.rd {e : Option Expr} {t t' : TO} (h : PO X e t) (i : ∀ σ H Q, t' σ H Q → t σ H Q) : PO X e t' := by
  obtain ⟨h⟩ := h
  exact ⟨by intros; apply h <;> first | assumption | (apply i; assumption)⟩
theorem vo_none : VO X T E none (fun _ => .ok none) := PO.rd po_none fun σ H Q ⟨ρ, S, h⟩ => h none H (Up.refl H) rfl
theorem vo_some (ha : VE X T E a fa) : VO X T E (some a) (fun ρ => (fa ρ).bind fun d => (toI d).bind fun i => .ok (some i)) :=
  PO.rd (po_some ha) fun σ H Q ⟨ρ, S, h⟩ => ⟨ρ, S, (Post.bind h).imp fun x H1 u1 ⟨d, rx, _, h3⟩ => by
    cases d with
    | int i =>
      cases rx
      exact ⟨i, rfl, h3 _ _ (Up.refl H1) rfl⟩
    | _ => exact h3.elim⟩
theorem Rps.cut {K : PySem.W.Frag} {H : Hp} {vs : List V} {ds : List PyData} (r : Rps K H vs ds) (lo hi : Option Int) : Rps K H (cutV vs lo hi) (cutD ds lo hi) := by
  unfold cutV cutD
  rw [r.len]
  exact (r.drop _).take _
theorem cutD_len {α : Type} (xs : List α) (lo hi : Option Int) : (cutD xs lo hi).length ≤ xs.length := by
  unfold cutD
  rw [List.length_take, List.length_drop]
  omega
theorem cutD_whole {α : Type} (xs : List α) (lo hi : Option Int) (h : HT.sIx xs.length 0 lo = 0 ∧ HT.sIx xs.length xs.length hi = xs.length) : cutD xs lo hi = xs := by
  unfold cutD
  rw [h.1, h.2]
  simp
theorem v_slice {lo hi : Option Expr} {fl fh : Rho → Res (Option Int)} {p2 : Pos} (ha : VE X T E a fa) (hl : VO X T E lo fl) (hh : VO X T E hi fh) :
    VE X T E (.Subscript a (.Slice lo hi none p2) pos) (fun ρ => (fa ρ).bind fun d => (fl ρ).bind fun l => (fh ρ).bind fun h => sliceD l h d) := by
  refine PE.rd (PE.fz (pe_slice (SlR.or sl_list sl_tupA) ha hl hh)) fun σ H Q ⟨ρ, S, h⟩ => ⟨ρ, S, (Post.bind h).imp fun x H1 u1 ⟨d, rx, _, h3⟩ => ⟨ρ, S.up u1, (Post.bind h3).imp fun l H2 u2 ⟨l', e1, _, h4⟩ => ⟨ρ, (S.up u1).up u2, (Post.bind h4).imp fun k H3 u3 ⟨k', e2, _, h5⟩ => ?_⟩⟩⟩
  subst e1 e2
  have rx' := rx.up (u2.trans u3)
  cases d with
  | list xs =>
    cases rx' with
    | lst s r z => exact .inl ⟨_, _, rfl, s.l, fun p hp => fz_new h5 (r.cut l k) (Nat.le_trans (cutD_len _ _ _) z) p hp⟩
  | tuple xs =>
    cases rx' with
    | tup s r z =>
      refine .inr ⟨_, _, rfl, s, fun hw => ?_, fun hw p hp => ?_⟩
      · rw [r.len] at hw
        have e := cutD_whole xs l k hw
        have h6 : Post X.K T E (Rp X.K) (.ok (.tuple (cutD xs l k))) H3 Q := h5
        rw [e] at h6
        exact .inl (h6 _ _ (Up.refl H3) (.tup s r z))
      · exact .inl (new_tup h5 (r.cut l k) (Nat.le_trans (cutD_len _ _ _) z) p hp)
  | _ => exact h5.elim
end
end PX

/-! the pure layer: calls, walks, comprehensions -/
namespace PX
open PySem PySem.Spec PyProof.Rows L2 LamX

def ServesC (X : Cx) (T : List (Addr × Str)) (E : XK) (r : List V → Hp → VK → Prop) (g : List PyData → Res PyData) : Prop :=
  ∀ vs ds H Q, Rps X.K H vs ds → Post X.K T E (Rp X.K) (g ds) H Q → r vs H (fun v H1 => Fz (Q v) H1)
section
variable {X : Cx} {T : List (Addr × Str)} {E : XK} {a b c e : Expr} {es : List Expr} {fa fb fc f : Rho → Res PyData} {fs : Rho → Res (List PyData)} {ta tb tc : Rho → Res Bool} {p pos : Pos} {x : Str} {id Ty : String} {r : List V → Hp → VK → Prop} {g : List PyData → Res PyData}
theorem v_callB (hc : CallR X (.builtin id) r) (hs : ServesC X T E r g) (hg : Gl X x) (hm : X.mg x = none) (hv : bootBuiltins x = some (.builtin id)) (ha : VA X T E (e :: es) fs) (hn : x ≠ "__name__" := by decide) (hdb : (x == ("__debug__" : Str)) = false := by decide)
    (he : starEach (e :: es) X.env = (false, eval e X.env) :: starEach es X.env := by rfl) (hpl : (backTo pos (starEach es X.env)).any (·.1) = false := by rfl) : VE X T E (.Call (.Name x p) (e :: es) [] pos) (fun ρ => (fs ρ).bind g) :=
  PE.rd (PE.fz (pe_callB hc hg hm hv ha.pa hn hdb he hpl)) fun σ H Q ⟨ρ, S, h⟩ => ⟨ρ, S, (Post.bind h).imp fun vs H1 u1 ⟨ds, rs, _, h3⟩ => hs vs ds H1 Q rs h3⟩
theorem v_callT (hc : CallR X (.type Ty) r) (hs : ServesC X T E r g) (hg : Gl X x) (hm : X.mg x = none) (hv : bootBuiltins x = some (.type Ty)) (ha : VA X T E (e :: es) fs) (hn : x ≠ "__name__" := by decide) (hdb : (x == ("__debug__" : Str)) = false := by decide)
    (he : starEach (e :: es) X.env = (false, eval e X.env) :: starEach es X.env := by rfl) (hpl : (backTo pos (starEach es X.env)).any (·.1) = false := by rfl) : VE X T E (.Call (.Name x p) (e :: es) [] pos) (fun ρ => (fs ρ).bind g) :=
  PE.rd (PE.fz (pe_callTy hc hg hm hv ha.pa hn hdb he hpl)) fun σ H Q ⟨ρ, S, h⟩ => ⟨ρ, S, (Post.bind h).imp fun vs H1 u1 ⟨ds, rs, _, h3⟩ => hs vs ds H1 Q rs h3⟩

/-! ### len -/
def lenD : List PyData → Res PyData
  | [.list xs] => .ok (.int (xs.length : Nat))
  | [.tuple xs] => .ok (.int (xs.length : Nat))
  | [.str x] => .ok (.int (x.length : Nat))
  | _ => .stuck
theorem Rps.one {K : PySem.W.Frag} {H : Hp} {vs : List V} {d : PyData} (r : Rps K H vs [d]) : ∃ v, vs = [v] ∧ Rp K H v d := by
  cases r with
  | cons a b => cases b; exact ⟨_, rfl, a⟩
theorem Rps.two {K : PySem.W.Frag} {H : Hp} {vs : List V} {d d' : PyData} (r : Rps K H vs [d, d']) : ∃ v w, vs = [v, w] ∧ Rp K H v d ∧ Rp K H w d' := by
  cases r with
  | cons a b =>
    obtain ⟨w, e, q⟩ := b.one
    subst e
    exact ⟨_, _, rfl, a, q⟩
theorem n_len : ServesC X T E (fun xs H Q => (∃ p ys, xs = [.ref p] ∧ (SqL X.K H p ys ∨ SqT X.K H p ys) ∧ Q (.int ys.length) H) ∨ ∃ z, xs = [.str z] ∧ z.length ≤ sizeLine ∧ Q (.int z.length) H) lenD := by
  intro vs ds H Q r h
  unfold lenD at h
  split at h
  · obtain ⟨v, rfl, q⟩ := r.one
    cases q with
    | lst s r z =>
      rw [← r.len] at h
      exact .inl ⟨_, _, rfl, .inl s.l, .inl (h _ _ (Up.refl H) (.int _))⟩
  · obtain ⟨v, rfl, q⟩ := r.one
    cases q with
    | tup s r z =>
      rw [← r.len] at h
      exact .inl ⟨_, _, rfl, .inr s, .inl (h _ _ (Up.refl H) (.int _))⟩
  · obtain ⟨v, rfl, q⟩ := r.one
    cases q with
    | str _ h1 z => exact .inr ⟨_, rfl, z, .inl (h _ _ (Up.refl H) (.int _))⟩
  · exact h.elim
theorem v_len (hg : Gl X "len") (hm : X.mg "len" = none) (ha : VE X T E a fa) (na : starEach [a] X.env = (false, eval a X.env) :: starEach [] X.env := by rfl) : VE X T E (.Call (.Name "len" p) [a] [] pos) (fun ρ => ((fa ρ).bind fun d => .ok [d]).bind lenD) :=
  v_callB (CallR.or call_len_seq call_len_str) n_len hg hm boot_len (va_cons ha va_nil na) (he := na)

/-! ### isinstance -/
def tyN : PyData → String
  | .none => "NoneType"
  | .bool _ => "bool"
  | .int _ => "int"
  | .str _ => "str"
  | .list _ => "list"
  | .tuple _ => "tuple"
  | .dict _ => "dict"
theorem Rp.ty {K : PySem.W.Frag} {H : Hp} {v : V} {d : PyData} (r : Rp K H v d) : TyX K H v (.type (tyN d)) := by
  cases r with
  | non => exact .base .non
  | bl b => exact .base (.bl b)
  | int i => exact .base (.int i)
  | str x h z => exact .base (.str x)
  | lst s r z =>
    rcases s with ⟨o, s⟩ | ⟨o, its, n, hk, hc, _⟩
    · exact .base (.frz s)
    · exact .kList hk hc
  | tup s r z =>
    rcases s with (s | ⟨o, s⟩) | ⟨o, its, n, hk, hc, _⟩
    · exact .base (.tup s)
    · exact .fTuple s
    · exact .kTuple hk hc
def isTup : PyData → Bool
  | .tuple _ => true
  | _ => false
def isInt : PyData → Bool
  | .int _ => true
  | .bool _ => true
  | _ => false
def isBool : PyData → Bool
  | .bool _ => true
  | _ => false
def isLst : PyData → Bool
  | .list _ => true
  | _ => false
def isStr : PyData → Bool
  | .str _ => true
  | _ => false
/-- the answers of isinstance against the type n -/
def IsT (n : String) (k : PyData → Bool) : Prop := ∀ d, (∀ kv, d ≠ .dict kv) → kitB (tyN d) n = some (k d)
theorem isT_mk {n : String} {k : PyData → Bool} (h : (kitB "NoneType" n = some (k .none) ∧ kitB "bool" n = some (k (.bool true)) ∧ kitB "int" n = some (k (.int 0))) ∧ kitB "str" n = some (k (.str Str.empty)) ∧ kitB "list" n = some (k (.list [])) ∧ kitB "tuple" n = some (k (.tuple [])))
    (hk : ∀ b i x l t, k (.bool b) = k (.bool true) ∧ k (.int i) = k (.int 0) ∧ k (.str x) = k (.str Str.empty) ∧ k (.list l) = k (.list []) ∧ k (.tuple t) = k (.tuple [])) : IsT n k := fun d hd => by
  cases d with
  | none => exact h.1.1
  | bool b => exact h.1.2.1.trans (congrArg some (hk b 0 Str.empty [] []).1.symm)
  | int i => exact h.1.2.2.trans (congrArg some (hk true i Str.empty [] []).2.1.symm)
  | str x => exact h.2.1.trans (congrArg some (hk true 0 x [] []).2.2.1.symm)
  | list l => exact h.2.2.1.trans (congrArg some (hk true 0 Str.empty l []).2.2.2.1.symm)
  | tuple t => exact h.2.2.2.trans (congrArg some (hk true 0 Str.empty [] t).2.2.2.2.symm)
  | dict kv => exact absurd rfl (hd kv)
theorem isT_tup : IsT "tuple" isTup := isT_mk (by decide +kernel) fun _ _ _ _ _ => ⟨rfl, rfl, rfl, rfl, rfl⟩
theorem isT_int : IsT "int" isInt := isT_mk (by decide +kernel) fun _ _ _ _ _ => ⟨rfl, rfl, rfl, rfl, rfl⟩
theorem isT_bool : IsT "bool" isBool := isT_mk (by decide +kernel) fun _ _ _ _ _ => ⟨rfl, rfl, rfl, rfl, rfl⟩
theorem isT_list : IsT "list" isLst := isT_mk (by decide +kernel) fun _ _ _ _ _ => ⟨rfl, rfl, rfl, rfl, rfl⟩
theorem isT_str : IsT "str" isStr := isT_mk (by decide +kernel) fun _ _ _ _ _ => ⟨rfl, rfl, rfl, rfl, rfl⟩
theorem v_isi {n : String} {k : PyData → Bool} {y : Str} {p2 : Pos} (hk : IsT n k) (hg : Gl X "isinstance") (hm : X.mg "isinstance" = none) (hg2 : Gl X y) (hm2 : X.mg y = none) (hv2 : bootBuiltins y = some (.type n)) (ha : VE X T E a fa)
    (na : starEach [a, .Name y p2] X.env = (false, eval a X.env) :: starEach [.Name y p2] X.env := by rfl) (nb : starEach [.Name y p2] X.env = (false, eval (.Name y p2) X.env) :: starEach [] X.env := by rfl)
    (hpl : (backTo pos (starEach [.Name y p2] X.env)).any (·.1) = false := by rfl) (hn : y ≠ "__name__" := by decide) (hdb : (y == ("__debug__" : Str)) = false := by decide) :
    VE X T E (.Call (.Name "isinstance" p) [a, .Name y p2] [] pos) (fun ρ => (fa ρ).bind fun d => .ok (.bool (k d))) :=
  PE.rd (pe_callB call_isi hg hm (by decide +kernel) (pa_cons ha (pa_cons (pe_bltn hg2 hm2 hv2 (v := .ty n) rfl hn hdb) pa_nil nb) na) (he := na) (hpl := hpl)) fun σ H Q ⟨ρ, S, h⟩ => ⟨ρ, S, (Post.bind h).imp fun v H1 u1 ⟨d, rx, _, h3⟩ =>
    ⟨v, .ty n, _, _, k d, rfl, .ty n, rx.ty, kit_ty (hk d fun kv e => by subst e; cases rx), h3 _ _ (Up.refl H1) (.bl _)⟩⟩

/-! ### lists of truth values, of ints -/
def boolsOf : List PyData → Option (List Bool)
  | [] => some []
  | .bool b :: r => (boolsOf r).map (b :: ·)
  | _ :: _ => none
def intsOf : List PyData → Option (List Int)
  | [] => some []
  | .int b :: r => (intsOf r).map (b :: ·)
  | _ :: _ => none
theorem boolsOf_rps {K : PySem.W.Frag} {H : Hp} : ∀ {ds : List PyData} {vs : List V} {bs : List Bool}, Rps K H vs ds → boolsOf ds = some bs → vs = bs.map V.bl
  | [], _, bs, r, h => by cases r; cases h; rfl
  | .bool b :: ds, _, bs, r, h => by
    cases r with
    | cons r1 r2 =>
      cases r1
      unfold boolsOf at h
      cases e : boolsOf ds with
      | none => rw [e] at h; cases h
      | some cs =>
        rw [e] at h
        cases h
        rw [boolsOf_rps r2 e]
        rfl
  | .none :: _, _, _, _, h => by cases h
  | .int _ :: _, _, _, _, h => by cases h
  | .str _ :: _, _, _, _, h => by cases h
  | .list _ :: _, _, _, _, h => by cases h
  | .tuple _ :: _, _, _, _, h => by cases h
  | .dict _ :: _, _, _, _, h => by cases h
theorem intsOf_rps {K : PySem.W.Frag} {H : Hp} : ∀ {ds : List PyData} {vs : List V} {bs : List Int}, Rps K H vs ds → intsOf ds = some bs → vs = bs.map V.int
  | [], _, bs, r, h => by cases r; cases h; rfl
  | .int b :: ds, _, bs, r, h => by
    cases r with
    | cons r1 r2 =>
      cases r1
      unfold intsOf at h
      cases e : intsOf ds with
      | none => rw [e] at h; cases h
      | some cs =>
        rw [e] at h
        cases h
        rw [intsOf_rps r2 e]
        rfl
  | .none :: _, _, _, _, h => by cases h
  | .bool _ :: _, _, _, _, h => by cases h
  | .str _ :: _, _, _, _, h => by cases h
  | .list _ :: _, _, _, _, h => by cases h
  | .tuple _ :: _, _, _, _, h => by cases h
  | .dict _ :: _, _, _, _, h => by cases h
@[simp] theorem boolsOf_map {α : Type} (f : α → Bool) (l : List α) : boolsOf (l.map fun x => .bool (f x)) = some (l.map f) := by
  induction l with
  | nil => rfl
  | cons x l ih => simp only [List.map_cons, boolsOf, ih, Option.map_some]
@[simp] theorem boolsOf_map' (l : List Bool) : boolsOf (l.map PyData.bool) = some l := by
  induction l with
  | nil => rfl
  | cons x l ih => simp only [List.map_cons, boolsOf, ih, Option.map_some]
@[simp] theorem intsOf_map' (l : List Int) : intsOf (l.map PyData.int) = some l := by
  induction l with
  | nil => rfl
  | cons x l ih => simp only [List.map_cons, intsOf, ih, Option.map_some]
@[simp] theorem intsOf_map {α : Type} (f : α → Int) (l : List α) : intsOf (l.map fun x => .int (f x)) = some (l.map f) := by
  induction l with
  | nil => rfl
  | cons x l ih => simp only [List.map_cons, intsOf, ih, Option.map_some]
theorem ints_rps {K : PySem.W.Frag} {H : Hp} (l : List Int) : Rps K H (l.map V.int) (l.map PyData.int) := by
  induction l with
  | nil => exact .nil
  | cons x l ih => exact .cons (.int x) ih
def allD : List PyData → Res PyData
  | [.list xs] => (match boolsOf xs with
    | some bs => .ok (.bool (bs.all (fun b => b)))
    | none => .stuck)
  | _ => .stuck
def anyD : List PyData → Res PyData
  | [.list xs] => (match boolsOf xs with
    | some bs => .ok (.bool (bs.any (fun b => b)))
    | none => .stuck)
  | _ => .stuck
def sumD : List PyData → Res PyData
  | [.list xs] => (match intsOf xs with
    | some ns => .ok (.int ns.sum)
    | none => .stuck)
  | _ => .stuck
def minOf : List Int → Int
  | [] => 0
  | [n] => n
  | n :: r => min n (minOf r)
def maxOf : List Int → Int
  | [] => 0
  | [n] => n
  | n :: r => max n (maxOf r)
theorem minOf_mem : ∀ {ns : List Int}, 0 < ns.length → minOf ns ∈ ns ∧ ∀ y ∈ ns, minOf ns ≤ y
  | [n], _ => ⟨List.mem_cons_self, fun y h => by cases List.mem_singleton.mp h; exact Int.le_refl _⟩
  | n :: m :: r, _ => by
    obtain ⟨h1, h2⟩ := minOf_mem (ns := m :: r) (Nat.succ_pos _)
    show min n (minOf (m :: r)) ∈ _ ∧ ∀ y ∈ _, min n (minOf (m :: r)) ≤ y
    refine ⟨?_, fun y hy => ?_⟩
    · by_cases h : n ≤ minOf (m :: r)
      · rw [Int.min_eq_left h]
        exact List.mem_cons_self
      · rw [Int.min_eq_right (by omega)]
        exact List.mem_cons_of_mem _ h1
    · rcases List.mem_cons.mp hy with e | hy
      · subst e
        exact Int.min_le_left _ _
      · exact Int.le_trans (Int.min_le_right _ _) (h2 y hy)
theorem maxOf_mem : ∀ {ns : List Int}, 0 < ns.length → maxOf ns ∈ ns ∧ ∀ y ∈ ns, y ≤ maxOf ns
  | [n], _ => ⟨List.mem_cons_self, fun y h => by cases List.mem_singleton.mp h; exact Int.le_refl _⟩
  | n :: m :: r, _ => by
    obtain ⟨h1, h2⟩ := maxOf_mem (ns := m :: r) (Nat.succ_pos _)
    show max n (maxOf (m :: r)) ∈ _ ∧ ∀ y ∈ _, y ≤ max n (maxOf (m :: r))
    refine ⟨?_, fun y hy => ?_⟩
    · by_cases h : maxOf (m :: r) ≤ n
      · rw [Int.max_eq_left h]
        exact List.mem_cons_self
      · rw [Int.max_eq_right (by omega)]
        exact List.mem_cons_of_mem _ h1
    · rcases List.mem_cons.mp hy with e | hy
      · subst e
        exact Int.le_max_left _ _
      · exact Int.le_trans (h2 y hy) (Int.le_max_right _ _)
def minD : List PyData → Res PyData
  | [.list xs] => (match intsOf xs with
    | some ns => if ns = [] then .stuck else .ok (.int (minOf ns))
    | none => .stuck)
  | [.int i, .int j] => .ok (.int (min i j))
  | _ => .stuck
def maxD : List PyData → Res PyData
  | [.list xs] => (match intsOf xs with
    | some ns => if ns = [] then .stuck else .ok (.int (maxOf ns))
    | none => .stuck)
  | [.int i, .int j] => .ok (.int (max i j))
  | _ => .stuck
theorem n_all : ServesC X T E (rAll X.K) allD := by
  intro vs ds H Q r h
  unfold allD at h
  split at h
  · obtain ⟨v, rfl, q⟩ := r.one
    cases q with
    | lst s r z =>
      split at h
      · rename_i bs e
        have ev := boolsOf_rps r e
        subst ev
        exact ⟨_, bs, rfl, s.l, .inl (h _ _ (Up.refl H) (.bl _))⟩
      · exact h.elim
  · exact h.elim
theorem n_any : ServesC X T E (rAny X.K) anyD := by
  intro vs ds H Q r h
  unfold anyD at h
  split at h
  · obtain ⟨v, rfl, q⟩ := r.one
    cases q with
    | lst s r z =>
      split at h
      · rename_i bs e
        have ev := boolsOf_rps r e
        subst ev
        exact ⟨_, bs, rfl, s.l, .inl (h _ _ (Up.refl H) (.bl _))⟩
      · exact h.elim
  · exact h.elim
theorem n_sum : ServesC X T E (rSum X.K) sumD := by
  intro vs ds H Q r h
  unfold sumD at h
  split at h
  · obtain ⟨v, rfl, q⟩ := r.one
    cases q with
    | lst s r z =>
      split at h
      · rename_i bs e
        have ev := intsOf_rps r e
        subst ev
        exact ⟨_, bs, rfl, s.l, .inl (h _ _ (Up.refl H) (.int _))⟩
      · exact h.elim
  · exact h.elim
theorem n_min : ServesC X T E (fun xs H Q => rMin X.K xs H Q ∨ ∃ i j, xs = [.int i, .int j] ∧ Q (.int (if j < i then j else i)) H) minD := by
  intro vs ds H Q r h
  unfold minD at h
  split at h
  · obtain ⟨v, rfl, q⟩ := r.one
    cases q with
    | lst s r z =>
      split at h
      · rename_i bs e
        have ev := intsOf_rps r e
        subst ev
        split at h
        · exact h.elim
        · rename_i hne
          have hl : 0 < bs.length := List.length_pos_iff.mpr hne
          refine .inl ⟨_, bs, rfl, s.l, hl, fun m hm hle => .inl ?_⟩
          obtain ⟨h1, h2⟩ := minOf_mem hl
          have em : m = minOf bs := Int.le_antisymm (hle _ h1) (h2 m hm)
          rw [em]
          exact h _ _ (Up.refl H) (.int _)
      · exact h.elim
  · rename_i i j
    obtain ⟨v, w, rfl, q1, q2⟩ := r.two
    cases q1
    cases q2
    refine .inr ⟨i, j, rfl, .inl ?_⟩
    have em : (if j < i then j else i) = min i j := by
      split
      · rw [Int.min_eq_right (by omega)]
      · rw [Int.min_eq_left (by omega)]
    rw [em]
    exact h _ _ (Up.refl H) (.int _)
  · exact h.elim
theorem n_max : ServesC X T E (fun xs H Q => rMax X.K xs H Q ∨ ∃ i j, xs = [.int i, .int j] ∧ Q (.int (if j > i then j else i)) H) maxD := by
  intro vs ds H Q r h
  unfold maxD at h
  split at h
  · obtain ⟨v, rfl, q⟩ := r.one
    cases q with
    | lst s r z =>
      split at h
      · rename_i bs e
        have ev := intsOf_rps r e
        subst ev
        split at h
        · exact h.elim
        · rename_i hne
          have hl : 0 < bs.length := List.length_pos_iff.mpr hne
          refine .inl ⟨_, bs, rfl, s.l, hl, fun m hm hle => .inl ?_⟩
          obtain ⟨h1, h2⟩ := maxOf_mem hl
          have em : m = maxOf bs := Int.le_antisymm (h2 m hm) (hle _ h1)
          rw [em]
          exact h _ _ (Up.refl H) (.int _)
      · exact h.elim
  · rename_i i j
    obtain ⟨v, w, rfl, q1, q2⟩ := r.two
    cases q1
    cases q2
    refine .inr ⟨i, j, rfl, .inl ?_⟩
    have em : (if j > i then j else i) = max i j := by
      split
      · rw [Int.max_eq_right (by omega)]
      · rw [Int.max_eq_left (by omega)]
    rw [em]
    exact h _ _ (Up.refl H) (.int _)
  · exact h.elim
/-- int(i), int(True); abs -/
def intD : List PyData → Res PyData
  | [.int i] => .ok (.int i)
  | [.bool b] => .ok (.int (if b then 1 else 0))
  | _ => .stuck
theorem n_intc : ServesC X T E (fun xs H Q => (∃ i, xs = [.int i] ∧ Q (.int i) H) ∨ ∃ k, xs = [.bl k] ∧ Q (.int (if k then 1 else 0)) H) intD := by
  intro vs ds H Q r h
  unfold intD at h
  split at h
  · obtain ⟨v, rfl, q⟩ := r.one
    cases q
    exact .inl ⟨_, rfl, .inl (h _ _ (Up.refl H) (.int _))⟩
  · obtain ⟨v, rfl, q⟩ := r.one
    cases q
    exact .inr ⟨_, rfl, .inl (h _ _ (Up.refl H) (.int _))⟩
  · exact h.elim
def absD : List PyData → Res PyData
  | [.int i] => .ok (.int (if i < 0 then -i else i))
  | _ => .stuck
theorem n_abs : ServesC X T E (fun xs H Q => ∃ i, xs = [.int i] ∧ Q (.int (if i < 0 then -i else i)) H) absD := by
  intro vs ds H Q r h
  unfold absD at h
  split at h
  · obtain ⟨v, rfl, q⟩ := r.one
    cases q
    exact ⟨_, rfl, .inl (h _ _ (Up.refl H) (.int _))⟩
  · exact h.elim
/-- tuple(x), list(x) of a list, a tuple -/
def tupleD : List PyData → Res PyData
  | [.list xs] => .ok (.tuple xs)
  | [.tuple xs] => .ok (.tuple xs)
  | _ => .stuck
def listD : List PyData → Res PyData
  | [.list xs] => .ok (.list xs)
  | [.tuple xs] => .ok (.list xs)
  | _ => .stuck
theorem n_tuple : ServesC X T E (fun xs H Q => ∃ p ys, xs = [.ref p] ∧ ((SqL X.K H p ys ∧ ∀ l, H l = none → Q (.ref l) (upd H l (.tup ys))) ∨ (SqT X.K H p ys ∧ Q (.ref p) H))) tupleD := by
  intro vs ds H Q r h
  unfold tupleD at h
  split at h
  · obtain ⟨v, rfl, q⟩ := r.one
    cases q with
    | lst s r z => exact ⟨_, _, rfl, .inl ⟨s.l, fun l hl => .inl (new_tup h r z l hl)⟩⟩
  · obtain ⟨v, rfl, q⟩ := r.one
    cases q with
    | tup s r z => exact ⟨_, _, rfl, .inr ⟨s, .inl (h _ _ (Up.refl H) (.tup s r z))⟩⟩
  · exact h.elim
theorem n_list : ServesC X T E (fun xs H Q => ∃ p ys, xs = [.ref p] ∧ (SqL X.K H p ys ∨ SqT X.K H p ys) ∧ ∀ l, H l = none → Q (.ref l) (upd H l (.lst ys))) listD := by
  intro vs ds H Q r h
  unfold listD at h
  split at h
  · obtain ⟨v, rfl, q⟩ := r.one
    cases q with
    | lst s r z => exact ⟨_, _, rfl, .inl s.l, fun l hl => fz_new h r z l hl⟩
  · obtain ⟨v, rfl, q⟩ := r.one
    cases q with
    | tup s r z => exact ⟨_, _, rfl, .inr s, fun l hl => fz_new h r z l hl⟩
  · exact h.elim
/-- range's ints -/
def rngD (n : Int) : List PyData := (List.range n.toNat).map fun (i : Nat) => PyData.int ((i : Nat) : Int)
def rngL (d : PyData) : Res (List PyData) := match d with
  | .int n => if -1000000 ≤ n ∧ n ≤ 1000000 then .ok (rngD n) else .stuck
  | _ => .stuck
theorem rgV_rps {K : PySem.W.Frag} {H : Hp} (n : Int) : Rps K H (rgV 0 n) (rngD n) := by
  unfold rgV rngD
  have e : (n - 0).toNat = n.toNat := by omega
  rw [e]
  generalize List.range n.toNat = l
  induction l with
  | nil => exact .nil
  | cons i l ih =>
    have e2 : (0 : Int) + ((i : Nat) : Int) = ((i : Nat) : Int) := by omega
    rw [List.map_cons, List.map_cons, e2]
    exact .cons (.int _) ih
theorem rngD_len (n : Int) : (rngD n).length = n.toNat := by unfold rngD; rw [List.length_map, List.length_range]
theorem v_tupRg {q : Pos} (hc : X.calm = true) (hg : Gl X "tuple") (hm : X.mg "tuple" = none) (hg2 : Gl X "range") (hm2 : X.mg "range" = none) (ha : VE X T E a fa) (na : starEach [a] X.env = (false, eval a X.env) :: starEach [] X.env := by rfl)
    (na2 : starEach [.Call (.Name "range" p) [a] [] q] X.env = (false, eval (.Call (.Name "range" p) [a] [] q) X.env) :: starEach [] X.env := by rfl) {p2 : Pos} :
    VE X T E (.Call (.Name "tuple" p2) [.Call (.Name "range" p) [a] [] q] [] pos) (fun ρ => (fa ρ).bind fun d => (rngL d).bind fun l => .ok (.tuple l)) :=
  PE.rd (pe_tupRg hc hg hm (prg_1 hg2 hm2 ha na) na2) fun σ H Q ⟨ρ, S, h⟩ => ⟨ρ, S, (Post.bind h).imp fun v H1 u1 ⟨d, rx, _, h3⟩ => by
    cases d with
    | int n =>
      cases rx
      have h3 : Post X.K T E (Rp X.K) ((rngL (.int n)).bind fun l => .ok (.tuple l)) H1 Q := h3
      unfold rngL at h3
      dsimp only at h3
      split at h3
      · rename_i hz
        refine ⟨n, rfl, ⟨by omega, by omega, by omega, by omega, by omega⟩, fun q hq => new_tup h3 (rgV_rps n) ?_ q hq⟩
        rw [rngD_len, sizeLine_eq]
        omega
      · exact h3.elim
    | _ => exact h3.elim⟩
theorem v_lstRg {q : Pos} (hc : X.calm = true) (hg : Gl X "list") (hm : X.mg "list" = none) (hg2 : Gl X "range") (hm2 : X.mg "range" = none) (ha : VE X T E a fa) (na : starEach [a] X.env = (false, eval a X.env) :: starEach [] X.env := by rfl)
    (na2 : starEach [.Call (.Name "range" p) [a] [] q] X.env = (false, eval (.Call (.Name "range" p) [a] [] q) X.env) :: starEach [] X.env := by rfl) {p2 : Pos} :
    VE X T E (.Call (.Name "list" p2) [.Call (.Name "range" p) [a] [] q] [] pos) (fun ρ => (fa ρ).bind fun d => (rngL d).bind fun l => .ok (.list l)) :=
  PE.rd (PE.fz (pe_listRg hc hg hm (prg_1 hg2 hm2 ha na) na2)) fun σ H Q ⟨ρ, S, h⟩ => ⟨ρ, S, (Post.bind h).imp fun v H1 u1 ⟨d, rx, _, h3⟩ => by
    cases d with
    | int n =>
      cases rx
      have h3 : Post X.K T E (Rp X.K) ((rngL (.int n)).bind fun l => .ok (.list l)) H1 Q := h3
      unfold rngL at h3
      dsimp only at h3
      split at h3
      · rename_i hz
        refine ⟨n, rfl, ⟨by omega, by omega, by omega, by omega, by omega⟩, fun q hq => fz_new h3 (rgV_rps n) ?_ q hq⟩
        rw [rngD_len, sizeLine_eq]
        omega
      · exact h3.elim
    | _ => exact h3.elim⟩
/-- sorted of ints -/
def insI (n : Int) : List Int → List Int
  | [] => [n]
  | m :: r => if n ≤ m then n :: m :: r else m :: insI n r
def sortI : List Int → List Int
  | [] => []
  | n :: r => insI n (sortI r)
theorem insI_perm (n : Int) : ∀ l : List Int, (insI n l).Perm (n :: l)
  | [] => List.Perm.refl _
  | m :: r => by
    unfold insI
    split
    · exact List.Perm.refl _
    · exact ((insI_perm n r).cons m).trans (List.Perm.swap n m r)
theorem sortI_perm : ∀ l : List Int, (sortI l).Perm l
  | [] => List.Perm.refl _
  | n :: r => (insI_perm n (sortI r)).trans ((sortI_perm r).cons n)
theorem insI_sorted (n : Int) : ∀ {l : List Int}, l.Pairwise (· ≤ ·) → (insI n l).Pairwise (· ≤ ·)
  | [], _ => List.pairwise_singleton _ _
  | m :: r, h => by
    unfold insI
    obtain ⟨h1, h2⟩ := List.pairwise_cons.mp h
    split
    · rename_i hl
      exact List.pairwise_cons.mpr ⟨fun y hy => by
        rcases List.mem_cons.mp hy with e | hy
        · subst e; exact hl
        · exact Int.le_trans hl (h1 y hy), h⟩
    · rename_i hl
      refine List.pairwise_cons.mpr ⟨fun y hy => ?_, insI_sorted n h2⟩
      rcases List.mem_cons.mp ((insI_perm n r).mem_iff.mp hy) with e | hy
      · subst e; omega
      · exact h1 y hy
theorem sortI_sorted : ∀ l : List Int, (sortI l).Pairwise (· ≤ ·)
  | [] => List.Pairwise.nil
  | n :: r => insI_sorted n (sortI_sorted r)
theorem sorted_unique : ∀ {l m : List Int}, l.Perm m → l.Pairwise (· ≤ ·) → m.Pairwise (· ≤ ·) → l = m
  | [], m, p, _, _ => (List.nil_perm.mp p).symm
  | a :: l, [], p, _, _ => by cases List.perm_nil.mp p
  | a :: l, b :: m, p, h1, h2 => by
    obtain ⟨x1, x2⟩ := List.pairwise_cons.mp h1
    obtain ⟨y1, y2⟩ := List.pairwise_cons.mp h2
    have hab : a ≤ b := by
      rcases List.mem_cons.mp (p.mem_iff.mpr (List.mem_cons_self (a := b) (l := m))) with e | h
      · omega
      · exact x1 b h
    have hba : b ≤ a := by
      rcases List.mem_cons.mp (p.mem_iff.mp (List.mem_cons_self (a := a) (l := l))) with e | h
      · omega
      · exact y1 a h
    have e : a = b := by omega
    subst e
    rw [sorted_unique (List.Perm.cons_inv p) x2 y2]
end
end PX

/-! the pure layer: targets, walks, comprehensions, statements, defs -/
namespace PX
open PySem PySem.Spec PyProof.Rows L2 LamX

/-! ### slots that are set -/
def setsV (σ : L2.St) : List Nat → List V → L2.St
  | i :: is, v :: vs => setsV (σ.set i (some v)) is vs
  | _, _ => σ
def setsD (ρ : Rho) : List Nat → List PyData → Rho
  | i :: is, v :: vs => setsD (ρ.set i (some (.d v))) is vs
  | _, _ => ρ
def wipeD (ρ : Rho) : List Nat → Rho
  | [] => ρ
  | v :: vs => (wipeD ρ vs).set v none
theorem setsV_len : ∀ (is : List Nat) (vs : List V) (σ : L2.St), (setsV σ is vs).length = σ.length
  | [], _, _ => by unfold setsV; rfl
  | _ :: _, [], _ => rfl
  | i :: is, v :: vs, σ => by unfold setsV; rw [setsV_len is vs, List.length_set]
theorem setsV_app : ∀ (is js : List Nat) (vs ws : List V) (σ : L2.St), vs.length = is.length → setsV σ (is ++ js) (vs ++ ws) = setsV (setsV σ is vs) js ws
  | [], _, [], _, _, _ => rfl
  | [], _, _ :: _, _, _, h => by cases h
  | _ :: _, _, [], _, _, h => by cases h
  | i :: is, js, v :: vs, ws, σ, h => by
    show setsV (σ.set i (some v)) (is ++ js) (vs ++ ws) = _
    rw [setsV_app is js vs ws _ (Nat.succ.inj h)]
    rfl
theorem wipe_get (σ : L2.St) (j : Nat) : ∀ vs : List Nat, (wipe σ vs)[j]? = if j ∈ vs then (σ[j]?).map (fun _ => none) else σ[j]?
  | [] => by simp [wipe]
  | v :: vs => by
    unfold wipe
    have ih := wipe_get σ j vs
    by_cases h : v = j
    · subst h
      rw [if_pos List.mem_cons_self]
      by_cases hl : v < (wipe σ vs).length
      · rw [List.getElem?_set_self hl]
        rw [wipe_length] at hl
        rw [List.getElem?_eq_getElem hl]
        rfl
      · rw [List.getElem?_eq_none (by simpa using hl)]
        rw [wipe_length] at hl
        rw [List.getElem?_eq_none (by omega)]
        rfl
    · rw [List.getElem?_set_ne h, ih]
      have e : (j ∈ v :: vs) = (j ∈ vs) := by
        rw [List.mem_cons]
        exact propext ⟨fun q => q.elim (fun z => absurd z.symm h) id, .inr⟩
      simp only [e]
theorem wipe_set {σ : L2.St} {i : Nat} {x : Option V} {vs : List Nat} (h : i ∈ vs) : wipe (σ.set i x) vs = wipe σ vs := by
  refine List.ext_getElem? fun j => ?_
  rw [wipe_get, wipe_get]
  by_cases hj : j ∈ vs
  · rw [if_pos hj, if_pos hj]
    by_cases e : i = j
    · subst e
      by_cases hl : i < σ.length
      · rw [List.getElem?_set_self hl, List.getElem?_eq_getElem hl]; rfl
      · rw [List.getElem?_eq_none (by simpa using hl), List.getElem?_eq_none (by omega)]
    · rw [List.getElem?_set_ne e]
  · rw [if_neg hj, if_neg hj, List.getElem?_set_ne (fun e => hj (by rw [← e]; exact h))]
theorem wipe_wipe (σ : L2.St) (vs : List Nat) : wipe (wipe σ vs) vs = wipe σ vs := by
  refine List.ext_getElem? fun j => ?_
  rw [wipe_get, wipe_get]
  by_cases hj : j ∈ vs
  · rw [if_pos hj, if_pos hj]
    cases σ[j]? <;> rfl
  · rw [if_neg hj, if_neg hj]
theorem wipe_sets : ∀ (is : List Nat) (vs : List V) (σ : L2.St) (own : List Nat), (∀ i ∈ is, i ∈ own) → wipe (setsV σ is vs) own = wipe σ own
  | [], _, _, _, _ => by unfold setsV; rfl
  | _ :: _, [], _, _, _ => rfl
  | i :: is, v :: vs, σ, own, h => by
    unfold setsV
    rw [wipe_sets is vs _ own (fun j hj => h j (List.mem_cons_of_mem _ hj)), wipe_set (h i List.mem_cons_self)]
theorem wipeD_len (ρ : Rho) : ∀ vs : List Nat, (wipeD ρ vs).length = ρ.length
  | [] => rfl
  | v :: vs => by unfold wipeD; rw [List.length_set, wipeD_len ρ vs]
theorem wipeD_some {ρ : Rho} {i : Nat} {x : Sl} : ∀ {vs : List Nat}, (wipeD ρ vs)[i]? = some (some x) → ρ[i]? = some (some x) ∧ i ∉ vs
  | [], h => ⟨h, by simp⟩
  | v :: vs, h => by
    unfold wipeD at h
    by_cases hi : v = i
    · subst hi
      by_cases hv : v < (wipeD ρ vs).length
      · rw [List.getElem?_set_self hv] at h; cases h
      · rw [List.getElem?_eq_none (by simpa using hv)] at h; cases h
    · rw [List.getElem?_set_ne hi] at h
      obtain ⟨h1, h2⟩ := wipeD_some h
      exact ⟨h1, by simp only [List.mem_cons, not_or]; exact ⟨fun e => hi e.symm, h2⟩⟩
section
variable {K : PySem.W.Frag} {T : List (Addr × Str)} {E : XK} {H H' H0 H1 : Hp} {σ : L2.St} {ρ : Rho}
theorem rf_key {i j : Nat} {s : Sl} {a : Addr} (hs : ∀ x, s ≠ .rf x) (h : (ρ.set i (some s))[j]? = some (some (.rf a))) : ρ[j]? = some (some (.rf a)) ∧ i ≠ j := by
  by_cases hj : i = j
  · subst hj
    by_cases hl : i < ρ.length
    · rw [List.getElem?_set_self hl] at h
      exact absurd (Option.some.inj (Option.some.inj h)) (hs a)
    · rw [List.getElem?_eq_none (by simpa using hl)] at h; cases h
  · rw [List.getElem?_set_ne hj] at h
    exact ⟨h, hj⟩
theorem sl_key {i j : Nat} {s s' : Sl} (hs : s ≠ s') (h : (ρ.set i (some s))[j]? = some (some s')) : ρ[j]? = some (some s') ∧ i ≠ j := by
  by_cases hj : i = j
  · subst hj
    by_cases hl : i < ρ.length
    · rw [List.getElem?_set_self hl] at h
      exact absurd (Option.some.inj (Option.some.inj h)) hs
    · rw [List.getElem?_eq_none (by simpa using hl)] at h; cases h
  · rw [List.getElem?_set_ne hj] at h
    exact ⟨h, hj⟩
theorem EOk.set {i : Nat} {v : V} {d : PyData} (s : EOk K T σ H ρ) (r : Rp K H v d) : EOk K T (σ.set i (some v)) H (ρ.set i (some (.d d))) := by
  have hrf : ∀ (j : Nat) (a : Addr), (ρ.set i (some (.d d)))[j]? = some (some (.rf a)) → (σ.set i (some v))[j]? = some (some (.ref a)) := fun j a h => by
    obtain ⟨h', hj⟩ := rf_key (fun x z => by cases z) h
    rw [List.getElem?_set_ne hj]
    exact s.rf j a h'
  refine ⟨by rw [List.length_set, List.length_set]; exact s.len, s.tabs, fun j e h => ?_, hrf, fun j ks h => by
    obtain ⟨h', hj⟩ := sl_key (fun z => by cases z) h
    rw [List.getElem?_set_ne hj]
    exact s.fd j ks h'⟩
  by_cases hj : i = j
  · subst hj
    by_cases hl : i < ρ.length
    · rw [List.getElem?_set_self hl] at h
      cases h
      exact ⟨v, List.getElem?_set_self (by rw [s.len]; exact hl), r⟩
    · rw [List.getElem?_eq_none (by simpa using hl)] at h; cases h
  · rw [List.getElem?_set_ne hj] at h ⊢
    exact s.at_ j e h
theorem EOk.sets : ∀ {is : List Nat} {vs : List V} {ds : List PyData} {σ : L2.St} {ρ : Rho}, EOk K T σ H ρ → Rps K H vs ds → EOk K T (setsV σ is vs) H (setsD ρ is ds)
  | [], _, _, _, _, s, _ => by unfold setsV setsD; exact s
  | _ :: _, _, _, _, _, s, .nil => s
  | i :: is, _, _, _, _, s, .cons r q => by
    unfold setsV setsD
    exact EOk.sets (s.set r) q
theorem EOk.wipe (s : EOk K T σ H ρ) (vs : List Nat) : EOk K T (L2.wipe σ vs) H (wipeD ρ vs) := by
  refine ⟨by rw [wipe_length, wipeD_len]; exact s.len, s.tabs, fun j e h => ?_, fun j a h => by
    obtain ⟨h1, h2⟩ := wipeD_some h
    rw [wipe_get, if_neg h2]
    exact s.rf j a h1, fun j ks h => by
    obtain ⟨h1, h2⟩ := wipeD_some h
    rw [wipe_get, if_neg h2]
    exact s.fd j ks h1⟩
  obtain ⟨h1, h2⟩ := wipeD_some h
  obtain ⟨v, h3, h4⟩ := s.at_ j e h1
  exact ⟨v, by rw [wipe_get, if_neg h2]; exact h3, h4⟩
theorem EOk.kill (s : EOk K T σ H ρ) (vs : List Nat) : EOk K T σ H (wipeD ρ vs) := by
  refine ⟨by rw [wipeD_len]; exact s.len, s.tabs, fun j e h => s.at_ j e (wipeD_some h).1, fun j a h => s.rf j a (wipeD_some h).1, fun j ks h => s.fd j ks (wipeD_some h).1⟩
theorem SOk.kill (s : SOk K T H0 σ H ρ) (vs : List Nat) : SOk K T H0 σ H (wipeD ρ vs) := ⟨s.e.kill vs, s.ext, fun i ds h => by
  obtain ⟨p, ws, h1, h2, h3, h4, h5⟩ := s.mu i ds (wipeD_some h).1
  exact ⟨p, ws, h1, h2, h3, h4, fun j ds' hj q => h5 j ds' hj (wipeD_some q).1⟩, fun i kvs h => by
  obtain ⟨p, us, h1, h2, h3, h4, h5⟩ := s.dk i kvs (wipeD_some h).1
  exact ⟨p, us, h1, h2, h3, h4, fun j ds' hj q => h5 j ds' hj (wipeD_some q).1⟩⟩
theorem SOk.set {i : Nat} {v : V} {d : PyData} (s : SOk K T H0 σ H ρ) (r : Rp K H v d) : SOk K T H0 (σ.set i (some v)) H (ρ.set i (some (.d d))) := by
  have key : ∀ (j : Nat) (ds : List PyData), (ρ.set i (some (.d d)))[j]? = some (some (.mu ds)) → ρ[j]? = some (some (.mu ds)) ∧ i ≠ j := fun j ds h => by
    by_cases hj : i = j
    · subst hj
      by_cases hl : i < ρ.length
      · rw [List.getElem?_set_self hl] at h; cases h
      · rw [List.getElem?_eq_none (by simpa using hl)] at h; cases h
    · rw [List.getElem?_set_ne hj] at h
      exact ⟨h, hj⟩
  refine ⟨s.e.set r, s.ext, fun j ds h => ?_, fun j kvs h => by
    obtain ⟨h', hj⟩ := sl_key (fun z => by cases z) h
    obtain ⟨p, us, h1, h2, h3, h4, h5⟩ := s.dk j kvs h'
    refine ⟨p, us, by rw [List.getElem?_set_ne hj]; exact h1, h2, h3, h4, fun k kvs' hk q => ?_⟩
    obtain ⟨q', hk'⟩ := sl_key (fun z => by cases z) q
    rw [List.getElem?_set_ne hk']
    exact h5 k kvs' hk q'⟩
  obtain ⟨h', hj⟩ := key j ds h
  obtain ⟨p, ws, h1, h2, h3, h4, h5⟩ := s.mu j ds h'
  refine ⟨p, ws, by rw [List.getElem?_set_ne hj]; exact h1, h2, h3, h4, fun k ds' hk q => ?_⟩
  obtain ⟨q', hk'⟩ := key k ds' q
  rw [List.getElem?_set_ne hk']
  exact h5 k ds' hk q'
theorem SOk.sets : ∀ {is : List Nat} {vs : List V} {ds : List PyData} {σ : L2.St} {ρ : Rho}, SOk K T H0 σ H ρ → Rps K H vs ds → SOk K T H0 (setsV σ is vs) H (setsD ρ is ds)
  | [], _, _, _, _, s, _ => by unfold setsV setsD; exact s
  | _ :: _, _, _, _, _, s, .nil => s
  | i :: is, _, _, _, _, s, .cons r q => by
    unfold setsV setsD
    exact SOk.sets (s.set r) q
end

/-! ### targets -/
def tG (K : PySem.W.Frag) (is : List Nat) (f : PyData → Res (List PyData)) : TG := fun v σ H Q => ∃ d as, Rp K H v d ∧ f d = .ok as ∧ ∀ vs, Rps K H vs as → Q (setsV σ is vs) H
def tGs (K : PySem.W.Frag) (is : List Nat) (f : List PyData → Res (List PyData)) : TGs := fun v σ H Q => ∃ d as, Rps K H v d ∧ f d = .ok as ∧ ∀ vs, Rps K H vs as → Q (setsV σ is vs) H
structure VG (X : Cx) (tg : Expr) (is : List Nat) (f : PyData → Res (List PyData)) : Prop where
  pg : PG X tg (tG X.K is f)
  len : ∀ d as, f d = .ok as → as.length = is.length
structure VGs (X : Cx) (tgs : List Expr) (is : List Nat) (f : List PyData → Res (List PyData)) : Prop where
  pg : PGs X tgs (tGs X.K is f)
  len : ∀ d as, f d = .ok as → as.length = is.length
  many : ∀ d as, f d = .ok as → d.length = tgs.length
section
variable {X : Cx} {pos : Pos}
theorem PG.rd {tg : Expr} {t t' : TG} (h : PG X tg t) (i : ∀ v σ H Q, t' v σ H Q → t v σ H Q) : PG X tg t' := ⟨fun pins s σ H v u Q I r q => h.run pins s σ H v u Q I r (i v σ H Q q)⟩
theorem PGs.rd {tg : List Expr} {t t' : TGs} (h : PGs X tg t) (i : ∀ v σ H Q, t' v σ H Q → t v σ H Q) : PGs X tg t' := ⟨fun pins s σ H v u Q I r q => h.run pins s σ H v u Q I r (i v σ H Q q)⟩
theorem vg_name (i : Nat) {x : Str} (hN : X.N.Nodup) (hi : X.N[i]? = some x := by rfl) (hx : Loc X.env.scope x := by first | exact Or.inl rfl | exact Or.inr rfl) (hf : X.fn x = true ∨ X.env.scope.names.lookup x = some .local := by first | exact .inl rfl | exact .inr rfl) :
    VG X (.Name x pos) [i] (fun d => .ok [d]) := ⟨PG.rd (pg_name (pos := pos) hN hi hx hf) fun v σ H Q ⟨d, as, r, e, h⟩ => by
  cases e
  exact h [v] (.cons r .nil), fun d as h => by cases h; rfl⟩
def gN (ds : List PyData) : Res (List PyData) := match ds with
  | [] => .ok []
  | _ => .stuck
theorem gN_ok {ds as : List PyData} (h : gN ds = .ok as) : ds = [] ∧ as = [] := by
  cases ds with
  | nil => cases h; exact ⟨rfl, rfl⟩
  | cons _ _ => cases h
theorem vgs_nil : VGs X [] [] gN := by
  refine ⟨PGs.rd pgs_nil fun v σ H Q ⟨d, as, r, e, h⟩ => ?_, fun d as h => ?_, fun d as h => ?_⟩
  · obtain ⟨rfl, rfl⟩ := gN_ok e
    cases r
    exact ⟨rfl, h [] .nil⟩
  · obtain ⟨rfl, rfl⟩ := gN_ok h
    rfl
  · obtain ⟨rfl, rfl⟩ := gN_ok h
    rfl
def gC (f : PyData → Res (List PyData)) (fs : List PyData → Res (List PyData)) (ds : List PyData) : Res (List PyData) := match ds with
  | d :: r => (f d).bind fun a => (fs r).bind fun b => .ok (a ++ b)
  | [] => .stuck
theorem gC_ok {f : PyData → Res (List PyData)} {fs : List PyData → Res (List PyData)} {ds as : List PyData} (h : gC f fs ds = .ok as) : ∃ d r a b, ds = d :: r ∧ f d = .ok a ∧ fs r = .ok b ∧ as = a ++ b := by
  cases ds with
  | nil => cases h
  | cons d r =>
    unfold gC at h
    dsimp only at h
    cases e1 : f d with
    | ok a =>
      cases e2 : fs r with
      | ok b =>
        rw [e1, e2] at h
        cases h
        exact ⟨d, r, a, b, rfl, e1, e2, rfl⟩
      | _ => rw [e1, e2] at h; cases h
    | _ => rw [e1] at h; cases h
theorem Rps.split {K : PySem.W.Frag} {H : Hp} : ∀ {as bs : List PyData} {vs : List V}, Rps K H vs (as ++ bs) → ∃ us ws, vs = us ++ ws ∧ Rps K H us as ∧ Rps K H ws bs
  | [], _, vs, h => ⟨[], vs, rfl, .nil, h⟩
  | a :: as, bs, _, h => by
    cases h with
    | cons r q =>
      obtain ⟨us, ws, e, h1, h2⟩ := Rps.split q
      subst e
      exact ⟨_ :: us, ws, rfl, .cons r h1, h2⟩
theorem vgs_cons {e : Expr} {es : List Expr} {is js : List Nat} {f : PyData → Res (List PyData)} {fs : List PyData → Res (List PyData)} (h1 : VG X e is f) (h2 : VGs X es js fs)
    (hs : (assignEach (e :: es) X.env).map (·.2) = assign e X.env :: (assignEach es X.env).map (·.2) := by rfl) : VGs X (e :: es) (is ++ js) (gC f fs) := ⟨PGs.rd (pgs_cons h1.pg h2.pg hs) fun v σ H Q ⟨d, as, r, e, h⟩ => by
  obtain ⟨d0, r0, a, b, rfl, e1, e2, rfl⟩ := gC_ok e
  cases r with
  | cons q1 q2 => exact ⟨_, _, rfl, d0, a, q1, e1, fun vs hv => ⟨r0, b, q2, e2, fun ws hw => by
      rw [← setsV_app is js vs ws σ (by rw [hv.len]; exact h1.len _ _ e1)]
      exact h _ (hv.append hw)⟩⟩, fun d as h => by
  obtain ⟨d0, r0, a, b, rfl, e1, e2, rfl⟩ := gC_ok h
  rw [List.length_append, List.length_append, h1.len _ _ e1, h2.len _ _ e2], fun d as h => by
  obtain ⟨d0, r0, a, b, rfl, e1, e2, rfl⟩ := gC_ok h
  rw [List.length_cons, List.length_cons, h2.many _ _ e2]⟩
def gT (f : List PyData → Res (List PyData)) (d : PyData) : Res (List PyData) := match d with
  | .tuple ds => f ds
  | _ => .stuck
def gL (f : List PyData → Res (List PyData)) (d : PyData) : Res (List PyData) := match d with
  | .list ds => f ds
  | _ => .stuck
theorem gT_ok {f : List PyData → Res (List PyData)} {d : PyData} {as : List PyData} (h : gT f d = .ok as) : ∃ ds, d = .tuple ds ∧ f ds = .ok as := by
  cases d with
  | tuple ds => exact ⟨ds, rfl, h⟩
  | _ => cases h
theorem gL_ok {f : List PyData → Res (List PyData)} {d : PyData} {as : List PyData} (h : gL f d = .ok as) : ∃ ds, d = .list ds ∧ f ds = .ok as := by
  cases d with
  | list ds => exact ⟨ds, rfl, h⟩
  | _ => cases h
theorem vg_tup {es : List Expr} {k : Nat} {is : List Nat} {f : List PyData → Res (List PyData)} (hc : X.calm = true) (h : VGs X es is f) (hn : (assignEach es X.env).length = es.length := by rfl) (hst : (assignEach es X.env).findIdx? (·.1) = none := by rfl) :
    VG X (.Tuple es k pos) is (gT f) := by
  refine ⟨PG.rd (pg_tup (pos := pos) (k := k) (n := es.length) hc h.pg hn hst) fun v σ H Q ⟨d, as, r, e, q⟩ => ?_, fun d as q => ?_⟩
  · obtain ⟨ds, rfl, e⟩ := gT_ok e
    cases r with
    | tup s r z => exact ⟨_, _, rfl, s, by rw [r.len]; exact h.many _ _ e, ds, as, r, e, q⟩
  · obtain ⟨ds, rfl, e⟩ := gT_ok q
    exact h.len _ _ e
theorem vg_lst {es : List Expr} {k : Nat} {is : List Nat} {f : List PyData → Res (List PyData)} (hc : X.calm = true) (h : VGs X es is f) (hn : (assignEach es X.env).length = es.length := by rfl) (hst : (assignEach es X.env).findIdx? (·.1) = none := by rfl) :
    VG X (.Tuple es k pos) is (gL f) := by
  refine ⟨PG.rd (pg_lst (pos := pos) (k := k) (n := es.length) hc h.pg hn hst) fun v σ H Q ⟨d, as, r, e, q⟩ => ?_, fun d as q => ?_⟩
  · obtain ⟨ds, rfl, e⟩ := gL_ok e
    cases r with
    | lst s r z => exact ⟨_, _, rfl, s.l, by rw [r.len]; exact h.many _ _ e, ds, as, r, e, q⟩
  · obtain ⟨ds, rfl, e⟩ := gL_ok q
    exact h.len _ _ e

/-! ### what is walked -/
structure IterOk (K : PySem.W.Frag) (T : List (Addr × Str)) (H0 : Hp) (J : It) (ds : List PyData) : Prop where
  z : ds.length ≤ sizeLine
  w : ∃ (G : Hp → Prop) (Y : Nat → Hp → V → Hp → Prop), Walk J ds.length G Y ∧ (∀ H', Evo T H0 H' → G H') ∧ ∀ i H x H', i < ds.length → Evo T H0 H → Y i H x H' → Up T H H' ∧ ∃ d, ds[i]? = some d ∧ Rp K H' x d
end
def tI (K : PySem.W.Frag) (T : List (Addr × Str)) (E : XK) (f : Rho → Res (List PyData)) : TI := fun σ H R => ∃ ρ, EOk K T σ H ρ ∧ Post K T E (fun H' J ds => IterOk K T H' J ds) (f ρ) H R
def VI (X : Cx) (T : List (Addr × Str)) (E : XK) (tg e : Expr) (f : Rho → Res (List PyData)) : Prop := PI X tg e (tI X.K T E f)
def itD : PyData → Res (List PyData)
  | .list ds => .ok ds
  | .tuple ds => .ok ds
  | _ => .stuck
def zipD : List PyData → Res (List PyData)
  | [.tuple xs, .tuple ys] => .ok ((xs.zip ys).map fun p => .tuple [p.1, p.2])
  | [.list xs, .list ys] => .ok ((xs.zip ys).map fun p => .tuple [p.1, p.2])
  | _ => .stuck
section
variable {X : Cx} {T : List (Addr × Str)} {E : XK} {a b c e tg : Expr} {es : List Expr} {fa fb fc f : Rho → Res PyData} {fs : Rho → Res (List PyData)} {p pos : Pos}
theorem PI.rd {t t' : TI} (h : PI X tg e t) (i : ∀ σ H R, t' σ H R → t σ H R) : PI X tg e t' := ⟨fun pins s σ H R I q => h.run pins s σ H R I (i σ H R q)⟩
theorem PI.or {t t' : TI} (h : PI X tg e t) (h' : PI X tg e t') : PI X tg e (fun σ H R => t σ H R ∨ t' σ H R) := ⟨fun pins s σ H R I q => q.elim (h.run pins s σ H R I) (h'.run pins s σ H R I)⟩
theorem iter_list {K : PySem.W.Frag} {H : Hp} {l : Addr} {vs : List V} {ds : List PyData} (s : SqF K H l vs) (r : Rps K H vs ds) (z : ds.length ≤ sizeLine) : IterOk K T H (Itl K l) ds :=
  ⟨z, _, _, by rw [← r.len]; exact walk_list, fun H' u => (s.evo u).l, fun i H1 x H2 hi u y => by
    obtain ⟨rfl, y2⟩ := y
    obtain ⟨d, h1, h2⟩ := (r.evo u).get y2
    exact ⟨Up.refl _, d, h1, h2⟩⟩
theorem iter_tup {K : PySem.W.Frag} {H : Hp} {l : Addr} {vs : List V} {ds : List PyData} (s : SqT K H l vs) (r : Rps K H vs ds) (z : ds.length ≤ sizeLine) : IterOk K T H (Itt K l) ds :=
  ⟨z, _, _, by rw [← r.len]; exact walk_tup, fun H' u => SqT_evo u s, fun i H1 x H2 hi u y => by
    obtain ⟨rfl, y2⟩ := y
    obtain ⟨d, h1, h2⟩ := (r.evo u).get y2
    exact ⟨Up.refl _, d, h1, h2⟩⟩
theorem vi_seq (ha : VE X T E a fa) : VI X T E tg a (fun ρ => (fa ρ).bind itD) := by
  refine PI.rd (PI.or (pi_list (tg := tg) ha) (pi_tup (tg := tg) ha)) fun σ H R ⟨ρ, S, h⟩ => ?_
  cases e : fa ρ with
  | stuck =>
    have h : Post X.K T E (fun H' J ds => IterOk X.K T H' J ds) ((fa ρ).bind itD) H R := h
    rw [e] at h
    exact h.elim
  | exc c =>
    have h : Post X.K T E (fun H' J ds => IterOk X.K T H' J ds) ((fa ρ).bind itD) H R := h
    rw [e] at h
    exact .inl ⟨ρ, S, by rw [e]; exact h⟩
  | ok d =>
    have h : Post X.K T E (fun H' J ds => IterOk X.K T H' J ds) ((fa ρ).bind itD) H R := h
    rw [e] at h
    cases d with
    | list ds => exact .inl ⟨ρ, S, by
        rw [e]
        intro v H1 u r
        cases r with
        | lst s r z => exact ⟨_, rfl, ⟨_, s.l⟩, h _ _ u (iter_list s r z)⟩⟩
    | tuple ds => exact .inr ⟨ρ, S, by
        rw [e]
        intro v H1 u r
        cases r with
        | tup s r z => exact ⟨_, rfl, ⟨_, s⟩, h _ _ u (iter_tup s r z)⟩⟩
    | _ => exact h.elim
theorem iter_rng {K : PySem.W.Frag} {H : Hp} {n : Int} (hn : n ≤ 1000000) : IterOk K T H (Itr 0 n.toNat) (rngD n) :=
  ⟨by rw [rngD_len, sizeLine_eq]; omega, _, _, by rw [rngD_len]; exact walk_range, fun _ _ => trivial, fun i H1 x H2 hi u y => by
    obtain ⟨rfl, rfl⟩ := y
    rw [rngD_len] at hi
    refine ⟨Up.refl _, .int ((i : Nat) : Int), ?_, ?_⟩
    · unfold rngD
      rw [List.getElem?_map, List.getElem?_range hi]
      rfl
    · have e : (0 : Int) + ((i : Nat) : Int) = ((i : Nat) : Int) := by omega
      show Rp K H2 (.int (0 + ((i : Nat) : Int))) _
      rw [e]
      exact .int _⟩
theorem vi_rng (hg : Gl X "range") (hm : X.mg "range" = none) (ha : VE X T E a fa) (hs : starEach [a] X.env = [(false, eval a X.env)] := by rfl) (na : starEach [a] X.env = (false, eval a X.env) :: starEach [] X.env := by rfl) :
    VI X T E tg (.Call (.Name "range" p) [a] [] pos) (fun ρ => (fa ρ).bind rngL) :=
  PI.rd (pi_range1 (tg := tg) hg hm (pa_cons ha pa_nil na) hs) fun σ H R ⟨ρ, S, h⟩ => ⟨ρ, S, (Post.bind h).imp fun v H1 u1 ⟨d, rx, _, h3⟩ => by
    cases d with
    | int n =>
      cases rx
      have h3 : Post X.K T E (fun H' J ds => IterOk X.K T H' J ds) (rngL (.int n)) H1 R := h3
      unfold rngL at h3
      dsimp only at h3
      split at h3
      · rename_i hz
        exact ⟨n, rfl, by omega, by omega, h3 _ _ (Up.refl H1) (iter_rng hz.2)⟩
      · exact h3.elim
    | _ => exact h3.elim⟩
theorem walk_zipT {K : PySem.W.Frag} {a b : Addr} {xs ys : List V} {n : Nat} (hn : n = min xs.length ys.length) : Walk (RZ.ItzT K a b) n (fun H => SqT K H a xs ∧ SqT K H b ys) (YPair (fun i => xs[i]?) (fun i => ys[i]?)) := by
  subst hn
  refine ⟨fun i _ hi q => ?_, fun _ q => ⟨xs, ys, q.1, q.2, by omega⟩, fun i H v H' _ q y => ?_⟩
  · have h1 : i < xs.length := by omega
    have h2 : i < ys.length := by omega
    exact ⟨xs, ys, xs[i], ys[i], q.1, q.2, by simp [h1], by simp [h2]⟩
  · obtain ⟨T, x, z, h1, h2, h3, h4, h5⟩ := y
    exact ⟨T, x, z, h1, h2, h3, h4 xs q.1, h5 ys q.2⟩
theorem iter_pair {K : PySem.W.Frag} {H H' : Hp} {x y : V} {d d' : PyData} {P : Addr} (rx : Rp K H x d) (ry : Rp K H y d') (hP : H P = none) (e : H' = upd H P (.tup [x, y])) : Up T H H' ∧ Rp K H' (.ref P) (.tuple [d, d']) := by
  subst e
  have u : Up T H (upd H P (.tup [x, y])) := Up.new hP
  exact ⟨u, .tup (.of upd_same) (.cons (rx.up u) (.cons (ry.up u) .nil)) (by show 2 ≤ sizeLine; decide)⟩
theorem zip_at {xs ys : List PyData} {i : Nat} {d d' : PyData} (h1 : xs[i]? = some d) (h2 : ys[i]? = some d') : ((xs.zip ys).map fun p => PyData.tuple [p.1, p.2])[i]? = some (.tuple [d, d']) := by
  rw [List.getElem?_map, List.getElem?_zip_eq_some (z := (d, d')) |>.mpr ⟨h1, h2⟩]
  rfl
theorem vi_zip {e2 : Expr} {tpos : Pos} {elts : List Expr} {kk : Nat} (hg : Gl X "zip") (hm : X.mg "zip" = none) (ha : VE X T E a fa) (hb : VE X T E e2 fb) (hs : starEach [a, e2] X.env = (false, eval a X.env) :: starEach [e2] X.env := by rfl)
    (hpl : (backTo pos (starEach [e2] X.env)).any (·.1) = false := by rfl) (nb : starEach [e2] X.env = (false, eval e2 X.env) :: starEach [] X.env := by rfl) :
    VI X T E (.Tuple elts kk tpos) (.Call (.Name "zip" p) [a, e2] [] pos) (fun ρ => ((fa ρ).bind fun d => ((fb ρ).bind fun d' => .ok [d']).bind fun ds => .ok (d :: ds)).bind zipD) := by
  have hv := va_cons ha (va_cons (es := []) hb va_nil nb) hs
  refine PI.rd (RZ.pi_zipA hg hm hv.pa hs hpl) fun σ H R ⟨ρ, S, h⟩ => ⟨ρ, S, (Post.bind h).imp fun vs H1 u1 ⟨ds, rs, _, h3⟩ => ?_⟩
  unfold zipD at h3
  split at h3
  · rename_i xs ys
    obtain ⟨v, w, rfl, q1, q2⟩ := rs.two
    cases q1 with
    | tup s1 r1 z1 =>
      cases q2 with
      | tup s2 r2 z2 =>
        refine ⟨_, _, _, _, rfl, .inr ⟨s1, s2, h3 _ _ (Up.refl H1) ⟨?_, _, _, walk_zipT ?_, fun H' u => ⟨SqT_evo u s1, SqT_evo u s2⟩, fun i H2 x H4 hi u y => ?_⟩⟩⟩
        · rw [List.length_map, List.length_zip]
          omega
        · rw [List.length_map, List.length_zip, r1.len, r2.len]
        · obtain ⟨P, x1, y1, rfl, hP, e4, g1, g2⟩ := y
          obtain ⟨d, h1, h2⟩ := (r1.evo u).get g1
          obtain ⟨d', h1', h2'⟩ := (r2.evo u).get g2
          obtain ⟨k1, k2⟩ := iter_pair (T := T) h2 h2' hP e4
          exact ⟨k1, _, zip_at h1 h1', k2⟩
  · rename_i xs ys
    obtain ⟨v, w, rfl, q1, q2⟩ := rs.two
    cases q1 with
    | lst s1 r1 z1 =>
      cases q2 with
      | lst s2 r2 z2 =>
        refine ⟨_, _, _, _, rfl, .inl ⟨s1.l, s2.l, h3 _ _ (Up.refl H1) ⟨?_, _, _, walk_zip ?_, fun H' u => ⟨(s1.evo u).l, (s2.evo u).l⟩, fun i H2 x H4 hi u y => ?_⟩⟩⟩
        · rw [List.length_map, List.length_zip]
          omega
        · rw [List.length_map, List.length_zip, r1.len, r2.len]
        · obtain ⟨P, x1, y1, rfl, hP, e4, g1, g2⟩ := y
          obtain ⟨d, h1, h2⟩ := (r1.evo u).get g1
          obtain ⟨d', h1', h2'⟩ := (r2.evo u).get g2
          obtain ⟨k1, k2⟩ := iter_pair (T := T) h2 h2' hP e4
          exact ⟨k1, _, zip_at h1 h1', k2⟩
  · exact h3.elim
end

/-! ### comprehensions -/
def noX {α : Type} (r : Res α) : Res α := match r with
  | .exc _ => .stuck
  | r => r
def compL (g : PyData → Res (List PyData)) (is : List Nat) (c : Rho → Res Bool) (fe : Rho → Res PyData) (ρ : Rho) : List PyData → Res (List PyData)
  | [] => .ok []
  | d :: ds => (g d).bind fun as => (noX (c (setsD ρ is as))).bind fun k => if k = true then (noX (fe (setsD ρ is as))).bind fun y => (compL g is c fe ρ ds).bind fun r => .ok (y :: r) else compL g is c fe ρ ds
def compD (src : Rho → Res (List PyData)) (g : PyData → Res (List PyData)) (is : List Nat) (own : List Nat) (c : Rho → Res Bool) (fe : Rho → Res PyData) (ρ : Rho) : Res PyData :=
  (src ρ).bind fun ds => (noX (compL g is c fe (wipeD ρ own) ds)).bind fun r => .ok (.list r)
def cYes : Rho → Res Bool := fun _ => .ok true
section
variable {K : PySem.W.Frag} {T : List (Addr × Str)} {E : XK} {H H' H0 H1 : Hp}
theorem noX_ok {α : Type} {r : Res α} {a : α} (h : noX r = .ok a) : r = .ok a := by
  cases r with
  | ok b => exact h
  | _ => cases h
theorem Tabs.put {a : Addr} {u : HO} (t : Tabs T H) (h : ∃ xs, H a = some (.lst xs)) : Tabs T (upd H a u) := fun p hp => by
  obtain ⟨ps, h1, h2, h3⟩ := t p hp
  obtain ⟨xs, hx⟩ := h
  refine ⟨ps, by rw [upd_ne (fun z => by rw [z, hx] at h1; cases h1)]; exact h1, h2, fun pos cv hc => ?_⟩
  obtain ⟨c, e1, e2⟩ := h3 pos cv hc
  exact ⟨c, e1, by rw [upd_ne (fun z => by rw [z, hx] at e2; unfold CodeO at e2; cases e2)]; exact e2⟩
theorem Nt.of_none {a : Addr} (h : H a = none) : Nt H a := fun o e => by rw [h] at e; cases e
theorem Nt.back {a : Addr} (u : ExtN H H') (h : Nt H' a) : Nt H a := fun o e => by
  by_cases q : ∃ ps, o = .tbl ps
  · exact q
  · have e2 := u a o e fun ps z => q ⟨ps, z⟩
    exact h o e2
theorem ExtN.put {a : Addr} {u : HO} (h : ExtN H H') (n : Nt H a) : ExtN H (upd H' a u) := fun b o e q => by
  rw [upd_ne (fun z => by
    rw [z] at e
    obtain ⟨ps, e2⟩ := n o e
    exact q ps e2)]
  exact h b o e q
theorem Up.put {a : Addr} {u : HO} (h : Up T H H') (n : Nt H a) (x : ∃ xs, H' a = some (.lst xs)) : Up T H (upd H' a u) := ⟨ExtN.put h.1 n, fun t => Tabs.put (h.2 t) x⟩
theorem Evo.put {a : Addr} {u : HO} (x : ∃ xs, H a = some (.lst xs)) : Evo T H (upd H a u) := by
  obtain ⟨xs, hx⟩ := x
  exact ⟨fun b ys e => by rw [upd_ne (fun z => by rw [z, hx] at e; cases e)]; exact e, fun b o ys e => by rw [upd_ne (fun z => by rw [z, hx] at e; cases e)]; exact e, fun t => Tabs.put t ⟨xs, hx⟩, fun b φ e => by rw [upd_ne (fun z => by rw [z, hx] at e; cases e)]; exact e⟩
end
section
variable {X : Cx} {T : List (Addr × Str)} {E : XK}
/-- the tests of a comprehension -/
theorem vts_nil : PTs X [] (tT X.K T E cYes) := by
  obtain ⟨h⟩ := pts_nil (X := X)
  exact ⟨fun pins s σ H Q I ⟨ρ, S, q⟩ => h pins s σ H Q I (q true H (Up.refl H) rfl)⟩
theorem vts_one {c : Expr} {t : Rho → Res Bool} (h : VT X T E c t) : PTs X [c] (tT X.K T E t) := pts_one h
theorem comp_of {K : PySem.W.Frag} {is own : List Nat} {src : Rho → Res (List PyData)} {g : PyData → Res (List PyData)} {ct : Rho → Res Bool} {fe : Rho → Res PyData} (hsub : ∀ i ∈ is, i ∈ own) (σ : L2.St) (H : Hp) (Q : VK)
    (h : tE K T E (compD src g is own ct fe) σ H Q) : tLc (tI K T E src) (tG K is g) (tT K T E0 ct) (tE K T E0 fe) own σ H (fun v H1 => Fz (Q v) H1) := by
  obtain ⟨ρ, S, h⟩ := h
  refine ⟨ρ, S, (Post.bind (R := fun H' J ds => IterOk K T H' J ds) h).imp fun J H1 u1 ⟨ds, it, _, h3⟩ => fun D hD => ?_⟩
  -- the result
  have h3 : Post K T E (Rp K) ((noX (compL g is ct fe (wipeD ρ own) ds)).bind fun r => .ok (.list r)) H1 Q := h3
  cases eo : compL g is ct fe (wipeD ρ own) ds with
  | stuck => rw [eo] at h3; exact h3.elim
  | exc c => rw [eo] at h3; exact h3.elim
  | ok out =>
    rw [eo] at h3
    have h3 : Post K T E (Rp K) (.ok (.list out)) H1 Q := h3
    obtain ⟨G, Y, w, hG, hY⟩ := it.w
    have S1 : EOk K T (L2.wipe σ own) H1 (wipeD ρ own) := (S.up u1).wipe own
    refine lc_it w (fun i H' => ∃ acc accd r, H' D = some (.lst acc) ∧ Rps K H' acc accd ∧ accd.length ≤ i ∧ Up T H1 H' ∧ compL g is ct fe (wipeD ρ own) (ds.drop i) = .ok r ∧ accd ++ r = out)
      ⟨[], [], out, upd_same, .nil, Nat.le_refl _, Up.new hD, eo, rfl⟩ (fun i H' _ ⟨_, _, _, _, _, _, u, _⟩ => hG H' u.evo) ?_ ?_
    · rintro i x H2 H3 hi ⟨acc, accd, r, hacc, ra, la, u2, er, eout⟩ y
      obtain ⟨u3, d, hd, rd⟩ := hY i H2 x H3 hi u2.evo y
      have ed : ds.drop i = d :: ds.drop (i + 1) := by
        rw [List.drop_eq_getElem_cons hi]
        rw [List.getElem?_eq_getElem hi] at hd
        rw [Option.some.inj hd]
      rw [ed] at er
      unfold compL at er
      cases eg : g d with
      | stuck => rw [eg] at er; cases er
      | exc c => rw [eg] at er; cases er
      | ok as =>
        rw [eg, Res.bind_ok] at er
        refine ⟨d, as, rd, eg, fun ws hw => ⟨by rw [wipe_sets is ws _ own hsub, wipe_wipe], ?_⟩⟩
        have S3 : EOk K T (setsV (L2.wipe σ own) is ws) H3 (setsD (wipeD ρ own) is as) := ((S1.up u2).up u3).sets hw
        refine ⟨_, S3, ?_⟩
        cases ec : ct (setsD (wipeD ρ own) is as) with
        | stuck => rw [ec] at er; cases er
        | exc c => rw [ec] at er; cases er
        | ok k =>
          rw [ec] at er
          intro k' H4 u4 ek
          subst ek
          have h24 : Up T H2 H4 := u3.trans u4
          have hacc4 : H4 D = some (.lst acc) := h24.1 D _ hacc (fun ps z => by cases z)
          have ra4 : Rps K H4 acc accd := ra.up h24
          cases k' with
          | false =>
            have er : compL g is ct fe (wipeD ρ own) (ds.drop (i + 1)) = .ok r := er
            exact iteF ⟨acc, accd, r, hacc4, ra4, Nat.le_succ_of_le la, u2.trans h24, er, eout⟩
          | true =>
            refine iteT ⟨_, S3.up u4, ?_⟩
            have er : ((noX (fe (setsD (wipeD ρ own) is as))).bind fun y => (compL g is ct fe (wipeD ρ own) (ds.drop (i + 1))).bind fun r => .ok (y :: r)) = .ok r := er
            cases ef : fe (setsD (wipeD ρ own) is as) with
            | stuck => rw [ef] at er; cases er
            | exc c => rw [ef] at er; cases er
            | ok yd =>
              rw [ef] at er
              have er : ((compL g is ct fe (wipeD ρ own) (ds.drop (i + 1))).bind fun r => .ok (yd :: r)) = .ok r := er
              cases e2 : compL g is ct fe (wipeD ρ own) (ds.drop (i + 1)) with
              | stuck => rw [e2] at er; cases er
              | exc c => rw [e2] at er; cases er
              | ok r2 =>
                rw [e2] at er
                cases er
                intro yv H5 u5 ry
                have h25 := h24.trans u5
                have hacc5 : H5 D = some (.lst acc) := h25.1 D _ hacc (fun ps z => by cases z)
                have u15 := u2.trans h25
                have ev : Evo T H5 (upd H5 D (.lst (acc ++ [yv]))) := Evo.put ⟨acc, hacc5⟩
                refine ⟨acc, hacc5, ?_, acc ++ [yv], accd ++ [yd], r2, upd_same, ((ra.up h25).append (.cons ry .nil)).evo ev, ?_, Up.put u15 (.of_none hD) ⟨acc, hacc5⟩, rfl, ?_⟩
                · rw [ra.len]
                  have := it.z
                  omega
                · rw [List.length_append, List.length_singleton]
                  omega
                · rw [List.append_assoc]
                  exact eout
    · rintro H2 ⟨acc, accd, r, hacc, ra, la, u2, er, eout⟩
      rw [List.drop_eq_nil_of_le (Nat.le_refl _)] at er
      cases er
      rw [List.append_nil] at eout
      subst eout
      refine .inr ⟨D, acc, hacc, fun o => ?_⟩
      have u12 : Up T H1 (upd H2 D (.frz o (.lst acc))) := Up.put u2 (.of_none hD) ⟨acc, hacc⟩
      have ev : Evo T H2 (upd H2 D (.frz o (.lst acc))) := Evo.put ⟨acc, hacc⟩
      exact h3 (.ref D) _ u12 (.lst (.inl ⟨o, upd_same⟩) (ra.evo ev) (Nat.le_trans la it.z))
theorem v_lc {elt tg iter : Expr} {ifs : List Expr} {scope : Scope} {own : List (Str × Nat)} {pos : Pos} {is : List Nat} {src : Rho → Res (List PyData)} {g : PyData → Res (List PyData)} {ct : Rho → Res Bool} {fe : Rho → Res PyData}
    (hc : X.calm = true) (hN : X.N.Nodup) (hi : VI X T E tg iter src) (ok : BlkOk X.N X.env.scope scope own) (hsub : ∀ i ∈ is, i ∈ own.map (·.2))
    (hg : ∀ (s : Shared) (H : Hp) (C : Addr) (cl : List (Str × Addr)) (fp : List Addr), VG (X.blk s H scope (compEnvC scope cl C X.env) fp) tg is g)
    (ht : ∀ (s : Shared) (H : Hp) (C : Addr) (cl : List (Str × Addr)) (fp : List Addr), PTs (X.blk s H scope (compEnvC scope cl C X.env) fp) ifs (tT X.K T E0 ct))
    (he : ∀ (s : Shared) (H : Hp) (C : Addr) (cl : List (Str × Addr)) (fp : List Addr), VE (X.blk s H scope (compEnvC scope cl C X.env) fp) T E0 elt fe) (hs : ∀ x, foldedSetIterable iter X.env x = pure x := by intro _; rfl) :
    VE X T E (.ListComp elt [⟨tg, iter, ifs, 0⟩] scope pos) (compD src g is (own.map (·.2)) ct fe) :=
  PE.rd (PE.fz (pe_lc hc hN hi ok (fun s H C cl fp => (hg s H C cl fp).pg) ht (te := tE X.K T E0 fe) he hs)) fun σ H Q h => comp_of hsub σ H Q h
end
end PX

/-! the pure layer: statements, defs -/
namespace PX
open PySem PySem.Spec PyProof.Rows L2 LamX

inductive Fl where
  | nx (ρ : Rho)
  | rt (d : PyData)
  | bk (ρ : Rho)
  | ct (ρ : Rho)
def PostS (K : PySem.W.Frag) (T : List (Addr × Str)) (E : XK) (H0 : Hp) (r : Res Fl) (D : Ends) (H : Hp) : Prop := match r with
  | .stuck => False
  | .exc c => ∀ H', ExtN H0 H' → Tabs T H' → E (clsV K c) none H'
  | .ok (.nx ρ) => ∀ σ' H', SOk K T H0 σ' H' ρ → Evo T H H' → D.nx σ' H'
  | .ok (.bk ρ) => ∀ σ' H', SOk K T H0 σ' H' ρ → Evo T H H' → D.bk σ' H'
  | .ok (.ct ρ) => ∀ σ' H', SOk K T H0 σ' H' ρ → Evo T H H' → D.ct σ' H'
  | .ok (.rt d) => ∀ v H', ExtN H0 H' → Tabs T H' → Rp K H' v d → D.rt v H'
def tS (K : PySem.W.Frag) (T : List (Addr × Str)) (E : XK) (H0 : Hp) (F : Rho → Res Fl) : TS := fun D σ H => ∃ ρ, SOk K T H0 σ H ρ ∧ PostS K T E H0 (F ρ) D H
def VS (X : Cx) (T : List (Addr × Str)) (E : XK) (H0 : Hp) (st : Stmt) (F : Rho → Res Fl) : Prop := PS X st (tS X.K T E H0 F)
def VSs (X : Cx) (T : List (Addr × Str)) (E : XK) (H0 : Hp) (st : List Stmt) (F : Rho → Res Fl) : Prop := PSs X st (tS X.K T E H0 F)
/-- what the rest does behind a statement -/
def Fl.go (G : Rho → Res Fl) : Fl → Res Fl
  | .nx ρ => G ρ
  | o => .ok o
section
variable {K : PySem.W.Frag} {T : List (Addr × Str)} {E : XK} {H0 H H1 : Hp} {σ : L2.St} {ρ : Rho} {D : Ends}
theorem PostS.evo {r : Res Fl} (h : PostS K T E H0 r D H) (u : Evo T H H1) : PostS K T E H0 r D H1 := by
  cases r with
  | stuck => exact h
  | exc c => exact h
  | ok o =>
    cases o with
    | nx ρ => exact fun σ' H' s v => h σ' H' s (u.trans v)
    | bk ρ => exact fun σ' H' s v => h σ' H' s (u.trans v)
    | ct ρ => exact fun σ' H' s v => h σ' H' s (u.trans v)
    | rt d => exact h
/-- an expression, then the statement's rest -/
theorem PostS.bind {α β : Type} {R : Hp → β → α → Prop} {r : Res α} {k : α → Res Fl} (s : SOk K T H0 σ H ρ) (h : PostS K T E H0 (r.bind k) D H) :
    Post K T E R r H (fun b H1 => ∃ a, R H1 b a ∧ Up T H H1 ∧ SOk K T H0 σ H1 ρ ∧ PostS K T E H0 (k a) D H1) := by
  cases r with
  | stuck => exact h
  | exc c => exact fun H' u => h H' (s.ext.trans u.1) (u.2 s.e.tabs)
  | ok a => exact fun b H' u q => ⟨a, q, u, s.up u, PostS.evo h u.evo⟩
theorem PostS.seq {r : Res Fl} {G : Rho → Res Fl} (h : PostS K T E H0 (r.bind (Fl.go G)) D H) : PostS K T E H0 r { D with nx := tS K T E H0 G D } H := by
  cases r with
  | stuck => exact h
  | exc c => exact h
  | ok o =>
    cases o with
    | nx ρ => exact fun σ' H' s u => ⟨ρ, s, PostS.evo h u⟩
    | bk ρ => exact h
    | ct ρ => exact h
    | rt d => exact h
theorem mu_key {i j : Nat} {s : Sl} {ds : List PyData} (hs : ∀ xs, s ≠ .mu xs) (h : (ρ.set i (some s))[j]? = some (some (.mu ds))) : ρ[j]? = some (some (.mu ds)) ∧ i ≠ j := by
  by_cases hj : i = j
  · subst hj
    by_cases hl : i < ρ.length
    · rw [List.getElem?_set_self hl] at h
      exact absurd (Option.some.inj (Option.some.inj h)) (hs ds)
    · rw [List.getElem?_eq_none (by simpa using hl)] at h; cases h
  · rw [List.getElem?_set_ne hj] at h
    exact ⟨h, hj⟩
theorem d_key {i j : Nat} {s : Sl} {d : PyData} (hs : ∀ x, s ≠ .d x) (h : (ρ.set i (some s))[j]? = some (some (.d d))) : ρ[j]? = some (some (.d d)) ∧ i ≠ j := by
  by_cases hj : i = j
  · subst hj
    by_cases hl : i < ρ.length
    · rw [List.getElem?_set_self hl] at h
      exact absurd (Option.some.inj (Option.some.inj h)) (hs d)
    · rw [List.getElem?_eq_none (by simpa using hl)] at h; cases h
  · rw [List.getElem?_set_ne hj] at h
    exact ⟨h, hj⟩
theorem SOk.freeze {i : Nat} {ds : List PyData} {p : Addr} {vs : List V} {o : Obj} (s : SOk K T H0 σ H ρ) (e : ρ[i]? = some (some (.mu ds))) (h1 : σ[i]? = some (some (.ref p))) (h2 : H p = some (.lst vs)) (h3 : Rps K H vs ds) (h4 : Nt H0 p)
    (h5 : ∀ (j : Nat) (ds' : List PyData), j ≠ i → ρ[j]? = some (some (.mu ds')) → σ[j]? ≠ some (some (.ref p))) (hz : ds.length ≤ sizeLine) : SOk K T H0 σ (upd H p (.frz o (.lst vs))) (ρ.set i (some (.d (.list ds)))) := by
  have ev : Evo T H (upd H p (.frz o (.lst vs))) := Evo.put ⟨vs, h2⟩
  refine ⟨⟨by rw [List.length_set]; exact s.e.len, Tabs.put s.e.tabs ⟨vs, h2⟩, fun j d h => ?_, fun j a h => s.e.rf j a (rf_key (fun x z => by cases z) h).1, fun j ks h => by
    obtain ⟨q, g1, g2⟩ := s.e.fd j ks (sl_key (fun z => by cases z) h).1
    exact ⟨q, g1, g2.evo ev⟩⟩, ExtN.put s.ext h4, fun j ds' h => ?_, fun j kvs h => by
    obtain ⟨q, us, g1, g2, g3, g4, g5⟩ := s.dk j kvs (sl_key (fun z => by cases z) h).1
    have ne : q ≠ p := fun z => by rw [z, h2] at g2; cases g2
    exact ⟨q, us, g1, by rw [upd_ne ne]; exact g2, g3.evo ev, g4, fun k kvs' hk r => g5 k kvs' hk (sl_key (fun z => by cases z) r).1⟩⟩
  · by_cases hj : i = j
    · subst hj
      have hl : i < ρ.length := by
        have := List.getElem?_eq_some_iff.mp e
        exact this.1
      rw [List.getElem?_set_self hl] at h
      cases h
      exact ⟨_, h1, .lst (.inl ⟨o, upd_same⟩) (h3.evo ev) hz⟩
    · rw [List.getElem?_set_ne hj] at h
      obtain ⟨v, g1, g2⟩ := s.e.at_ j d h
      exact ⟨v, g1, g2.evo ev⟩
  · obtain ⟨h', hj⟩ := mu_key (fun xs z => by cases z) h
    obtain ⟨p', ws, g1, g2, g3, g4, g5⟩ := s.mu j ds' h'
    have ne : p' ≠ p := fun z => h5 j ds' (Ne.symm hj) h' (by rw [g1, z])
    exact ⟨p', ws, g1, by rw [upd_ne ne]; exact g2, g3.evo ev, g4, fun k ds2 hk q => g5 k ds2 hk (mu_key (fun xs z => by cases z) q).1⟩
theorem SOk.app {i : Nat} {ds : List PyData} {d : PyData} {v : V} {p : Addr} {vs : List V} (s : SOk K T H0 σ H ρ) (e : ρ[i]? = some (some (.mu ds))) (h1 : σ[i]? = some (some (.ref p))) (h2 : H p = some (.lst vs)) (h3 : Rps K H vs ds) (h4 : Nt H0 p)
    (h5 : ∀ (j : Nat) (ds' : List PyData), j ≠ i → ρ[j]? = some (some (.mu ds')) → σ[j]? ≠ some (some (.ref p))) (r : Rp K H v d) : SOk K T H0 σ (upd H p (.lst (vs ++ [v]))) (ρ.set i (some (.mu (ds ++ [d])))) := by
  have ev : Evo T H (upd H p (.lst (vs ++ [v]))) := Evo.put ⟨vs, h2⟩
  have hl : i < ρ.length := (List.getElem?_eq_some_iff.mp e).1
  have mk : ∀ (j : Nat) (ds' : List PyData), j ≠ i → (ρ.set i (some (.mu (ds ++ [d]))))[j]? = some (some (.mu ds')) → ρ[j]? = some (some (.mu ds')) := fun j ds' hj h => by
    rw [List.getElem?_set_ne (Ne.symm hj)] at h
    exact h
  refine ⟨⟨by rw [List.length_set]; exact s.e.len, Tabs.put s.e.tabs ⟨vs, h2⟩, fun j d' h => ?_, fun j a h => s.e.rf j a (rf_key (fun x z => by cases z) h).1, fun j ks h => by
    obtain ⟨q, g1, g2⟩ := s.e.fd j ks (sl_key (fun z => by cases z) h).1
    exact ⟨q, g1, g2.evo ev⟩⟩, ExtN.put s.ext h4, fun j ds' h => ?_, fun j kvs h => by
    obtain ⟨q, us, g1, g2, g3, g4, g5⟩ := s.dk j kvs (sl_key (fun z => by cases z) h).1
    have ne : q ≠ p := fun z => by rw [z, h2] at g2; cases g2
    exact ⟨q, us, g1, by rw [upd_ne ne]; exact g2, g3.evo ev, g4, fun k kvs' hk r => g5 k kvs' hk (sl_key (fun z => by cases z) r).1⟩⟩
  · obtain ⟨h', hj⟩ := d_key (fun xs z => by cases z) h
    obtain ⟨v', g1, g2⟩ := s.e.at_ j d' h'
    exact ⟨v', g1, g2.evo ev⟩
  · by_cases hj : j = i
    · subst hj
      rw [List.getElem?_set_self hl] at h
      cases h
      exact ⟨p, _, h1, upd_same, (h3.append (.cons r .nil)).evo ev, h4, fun k ds2 hk q => h5 k ds2 hk (mk k ds2 hk q)⟩
    · have h' := mk j ds' hj h
      obtain ⟨p', ws, g1, g2, g3, g4, g5⟩ := s.mu j ds' h'
      have ne : p' ≠ p := fun z => h5 j ds' hj h' (by rw [g1, z])
      refine ⟨p', ws, g1, by rw [upd_ne ne]; exact g2, g3.evo ev, g4, fun k ds2 hk q => ?_⟩
      by_cases hk2 : k = i
      · subst hk2
        rw [h1]
        exact fun z => ne (by injection z with z; injection z with z; injection z with z; exact z.symm)
      · exact g5 k ds2 hk (mk k ds2 hk2 q)
theorem SOk.newMu {i : Nat} {ds : List PyData} {p : Addr} {vs : List V} (s : SOk K T H0 σ H ρ) (hp : H p = none) (r : Rps K H vs ds) : SOk K T H0 (σ.set i (some (.ref p))) (upd H p (.lst vs)) (ρ.set i (some (.mu ds))) := by
  have u : Up T H (upd H p (.lst vs)) := Up.new hp
  have s' := s.up u
  refine ⟨⟨by rw [List.length_set, List.length_set]; exact s.e.len, s'.e.tabs, fun j d h => ?_, fun j a h => by
    obtain ⟨h', hj⟩ := rf_key (fun x z => by cases z) h
    rw [List.getElem?_set_ne hj]
    exact s.e.rf j a h', fun j ks h => by
    obtain ⟨h', hj⟩ := sl_key (fun z => by cases z) h
    rw [List.getElem?_set_ne hj]
    exact s'.e.fd j ks h'⟩, s'.ext, fun j ds' h => ?_, fun j kvs h => by
    obtain ⟨h', hj⟩ := sl_key (fun z => by cases z) h
    obtain ⟨q, us, g1, g2, g3, g4, g5⟩ := s'.dk j kvs h'
    refine ⟨q, us, by rw [List.getElem?_set_ne hj]; exact g1, g2, g3, g4, fun k kvs' hk r => ?_⟩
    obtain ⟨r', hk'⟩ := sl_key (fun z => by cases z) r
    rw [List.getElem?_set_ne hk']
    exact g5 k kvs' hk r'⟩
  · obtain ⟨h', hj⟩ := d_key (fun xs z => by cases z) h
    obtain ⟨v', g1, g2⟩ := s'.e.at_ j d h'
    exact ⟨v', by rw [List.getElem?_set_ne hj]; exact g1, g2⟩
  · have old : ∀ (k : Nat) (ds2 : List PyData), k ≠ i → (ρ.set i (some (.mu ds)))[k]? = some (some (.mu ds2)) → ∃ p' vs', σ[k]? = some (some (.ref p')) ∧ H p' = some (.lst vs') := fun k ds2 hk h => by
      rw [List.getElem?_set_ne (Ne.symm hk)] at h
      obtain ⟨p', ws, g1, g2, _⟩ := s.mu k ds2 h
      exact ⟨p', ws, g1, g2⟩
    by_cases hj : j = i
    · subst hj
      have hl : j < ρ.length := by
        have := (List.getElem?_eq_some_iff.mp h).1
        rwa [List.length_set] at this
      rw [List.getElem?_set_self hl] at h
      cases h
      refine ⟨p, vs, List.getElem?_set_self (by rw [s.e.len]; exact hl), upd_same, r.up u, Nt.back s.ext (.of_none hp), fun k ds2 hk q => ?_⟩
      obtain ⟨p', vs', g1, g2⟩ := old k ds2 hk q
      rw [List.getElem?_set_ne (Ne.symm hk), g1]
      exact fun z => by
        injection z with z; injection z with z; injection z with z
        rw [z, hp] at g2
        cases g2
    · have h' : ρ[j]? = some (some (.mu ds')) := by
        rw [List.getElem?_set_ne (Ne.symm hj)] at h
        exact h
      obtain ⟨p', ws, g1, g2, g3, g4, g5⟩ := s'.mu j ds' h'
      refine ⟨p', ws, by rw [List.getElem?_set_ne (Ne.symm hj)]; exact g1, g2, g3, g4, fun k ds2 hk q => ?_⟩
      by_cases hk2 : k = i
      · subst hk2
        have hl : k < ρ.length := by
          have := (List.getElem?_eq_some_iff.mp q).1
          rwa [List.length_set] at this
        rw [List.getElem?_set_self (by rw [s.e.len]; exact hl)]
        exact fun z => by
          injection z with z; injection z with z; injection z with z
          obtain ⟨p2, vs2, k1, k2⟩ := old j ds' hj h
          rw [g1] at k1
          injection k1 with k1; injection k1 with k1; injection k1 with k1
          rw [← k1, ← z, hp] at k2
          cases k2
      · rw [List.getElem?_set_ne (Ne.symm hk2)]
        rw [List.getElem?_set_ne (Ne.symm hk2)] at q
        exact g5 k ds2 hk q
end
section
variable {X : Cx} {T : List (Addr × Str)} {E : XK} {H0 : Hp} {st : Stmt} {sts rest : List Stmt} {F G : Rho → Res Fl} {e : Expr} {f : Rho → Res PyData} {pos pos' : Pos}
theorem vs_nil : VSs X T E H0 [] (fun ρ => .ok (.nx ρ)) := PSs.rd pss_nil fun D σ H ⟨ρ, S, h⟩ => h σ H S (Evo.refl H)
theorem vs_cons (h1 : VS X T E H0 st F) (h2 : VSs X T E H0 rest G) : VSs X T E H0 (st :: rest) (fun ρ => (F ρ).bind (Fl.go G)) :=
  PSs.rd (pss_cons h1 h2) fun D σ H ⟨ρ, S, h⟩ => ⟨ρ, S, PostS.seq h⟩
theorem vs_one (h1 : VS X T E H0 st F) : VSs X T E H0 [st] F := pss_one h1
/-- what is known of some slots is forgotten -/
theorem vs_kill (ks : List Nat) (h : VSs X T E H0 sts F) : VSs X T E H0 sts (fun ρ => F (wipeD ρ ks)) :=
  PSs.rd h fun D σ H ⟨ρ, S, q⟩ => ⟨wipeD ρ ks, S.kill ks, q⟩
/-- a list that grew is frozen -/
def frzS (i : Nat) (F : Rho → Res Fl) (ρ : Rho) : Res Fl := match ρ[i]? with
  | some (some (.mu ds)) => if ds.length ≤ 1000000 then F (ρ.set i (some (.d (.list ds)))) else .stuck
  | _ => .stuck
theorem vs_frz (i : Nat) (h : VSs X T E H0 sts F) : VSs X T E H0 sts (frzS i F) := by
  refine PSs.rd (PSs.fz0 h) fun D σ H ⟨ρ, S, q⟩ => ?_
  unfold frzS at q
  split at q
  · rename_i ds e
    split at q
    · rename_i hz
      obtain ⟨p, vs, h1, h2, h3, h4, h5⟩ := S.mu i ds e
      exact .inr ⟨p, vs, h2, fun o => ⟨_, S.freeze e h1 h2 h3 h4 h5 (by rw [sizeLine_eq]; omega), PostS.evo q (Evo.put ⟨vs, h2⟩)⟩⟩
    · exact q.elim
  · exact q.elim
theorem vs_ret (he : VE X T E e f) : VS X T E H0 (.Return (some e) pos) (fun ρ => (f ρ).bind fun d => .ok (.rt d)) :=
  PS.rd (ps_ret he) fun D σ H ⟨ρ, S, h⟩ => ⟨ρ, S.e, (PostS.bind S h).imp fun v H1 u ⟨d, r, _, S1, q⟩ => q v H1 S1.ext S1.e.tabs r⟩
theorem vs_retN : VS X T E H0 (.Return none pos) (fun _ => .ok (.rt .none)) :=
  PS.rd ps_retN fun D σ H ⟨ρ, S, h⟩ => h .non H S.ext S.e.tabs .non
theorem vs_cont : VS X T E H0 (.Continue pos) (fun ρ => .ok (.ct ρ)) := PS.rd ps_continue fun D σ H ⟨ρ, S, h⟩ => h σ H S (Evo.refl H)
theorem vs_brk : VS X T E H0 (.Break pos) (fun ρ => .ok (.bk ρ)) := PS.rd ps_break fun D σ H ⟨ρ, S, h⟩ => h σ H S (Evo.refl H)
theorem vs_pass : VS X T E H0 (.Pass pos) (fun ρ => .ok (.nx ρ)) := PS.rd ps_pass fun D σ H ⟨ρ, S, h⟩ => h σ H S (Evo.refl H)
theorem vs_expr (he : VE X T E e f) (hs : swapsWith e none pos.line X.env = pure false := by rfl) : VS X T E H0 (.Expr e pos) (fun ρ => (f ρ).bind fun _ => .ok (.nx ρ)) :=
  PS.rd (ps_expr he hs) fun D σ H ⟨ρ, S, h⟩ => ⟨ρ, S.e, (PostS.bind S h).imp fun v H1 u ⟨d, r, _, S1, q⟩ => q σ H1 S1 (Evo.refl H1)⟩
/-- a name is set -/
def setF (i : Nat) (r : Res PyData) (ρ : Rho) : Res Fl := r.bind fun d => .ok (.nx (ρ.set i (some (.d d))))
theorem vs_set (i : Nat) {x : Str} (hN : X.N.Nodup) (he : VE X T E e f) (hi : X.N[i]? = some x := by rfl) (hx : Loc X.env.scope x := by first | exact Or.inl rfl | exact Or.inr rfl) (hs : swapsWith e (some (.Name x pos')) pos.line X.env = pure false := by rfl)
    (hf : X.fn x = true ∨ X.env.scope.names.lookup x = some .local := by first | exact .inl rfl | exact .inr rfl) : VS X T E H0 (.Assign [.Name x pos'] e pos) (fun ρ => setF i (f ρ) ρ) :=
  PS.rd (ps_set hN hi hx he hs hf) fun D σ H ⟨ρ, S, h⟩ => ⟨ρ, S.e, (PostS.bind S h).imp fun v H1 u ⟨d, r, _, S1, q⟩ => q _ H1 (S1.set r) (Evo.refl H1)⟩
theorem vs_setLc (i : Nat) {x : Str} {elt tg iter : Expr} {ifs : List Expr} {scope : Scope} {own : List (Str × Nat)} {is : List Nat} {src : Rho → Res (List PyData)} {g : PyData → Res (List PyData)} {ct : Rho → Res Bool} {fe : Rho → Res PyData} {cpos : Pos}
    (hc : X.calm = true) (hN : X.N.Nodup) (hi : VI X T E tg iter src) (ok : BlkOk X.N X.env.scope scope own) (hsub : ∀ i ∈ is, i ∈ own.map (·.2))
    (hg : ∀ (s : Shared) (H : Hp) (C : Addr) (cl : List (Str × Addr)) (fp : List Addr), VG (X.blk s H scope (compEnvC scope cl C X.env) fp) tg is g)
    (ht : ∀ (s : Shared) (H : Hp) (C : Addr) (cl : List (Str × Addr)) (fp : List Addr), PTs (X.blk s H scope (compEnvC scope cl C X.env) fp) ifs (tT X.K T L2.E0 ct))
    (he : ∀ (s : Shared) (H : Hp) (C : Addr) (cl : List (Str × Addr)) (fp : List Addr), VE (X.blk s H scope (compEnvC scope cl C X.env) fp) T L2.E0 elt fe)
    (hsw : swapsWith (.ListComp elt [⟨tg, iter, ifs, 0⟩] scope cpos) (some (.Name x pos')) pos.line X.env = pure true) (hiN : X.N[i]? = some x := by rfl) (hyl : X.env.scope.names.lookup x = some .local := by rfl)
    (hs : ∀ x, foldedSetIterable iter X.env x = pure x := by intro _; rfl) :
    VS X T E H0 (.Assign [.Name x pos'] (.ListComp elt [⟨tg, iter, ifs, 0⟩] scope cpos) pos) (fun ρ => setF i (compD src g is (own.map (·.2)) ct fe ρ) ρ) := by
  refine PS.rd (PS.fz (ps_setLc hc hN hiN hyl hsw hi ok (g := tG X.K is g) (fun s H C cl fp => (hg s H C cl fp).pg) ht (te := tE X.K T L2.E0 fe) he hs)) fun D σ H ⟨ρ, S, h⟩ => ?_
  exact comp_of hsub σ H (fun v H1 => D.nx (σ.set i (some v)) H1) ⟨ρ, S.e, (PostS.bind S h).imp fun v H1 u ⟨d, r, _, S1, q⟩ => q _ H1 (S1.set r) (Evo.refl H1)⟩
/-- a name is set to a list that will grow -/
theorem vs_setMu (i : Nat) {x : Str} {es : List Expr} {fs : Rho → Res (List PyData)} {lpos : Pos} (hN : X.N.Nodup) (ha : VA X T E es fs) (hi : X.N[i]? = some x := by rfl) (hx : Loc X.env.scope x := by first | exact Or.inl rfl | exact Or.inr rfl)
    (hs : swapsWith (.List es lpos) (some (.Name x pos')) pos.line X.env = pure false := by rfl) (hf : X.fn x = true ∨ X.env.scope.names.lookup x = some .local := by first | exact .inl rfl | exact .inr rfl) (hz : es.length ≤ 1000 := by decide) :
    VS X T E H0 (.Assign [.Name x pos'] (.List es lpos) pos) (fun ρ => (fs ρ).bind fun ds => .ok (.nx (ρ.set i (some (.mu ds))))) := by
  refine PS.rd (ps_set hN hi hx (pe_lst ha.pa) hs hf) fun D σ H ⟨ρ, S, h⟩ => ⟨ρ, S.e, ?_⟩
  dsimp only at h
  cases e : fs ρ with
  | stuck => rw [e] at h; exact h
  | exc c =>
    rw [e] at h
    exact fun H' u => h H' (S.ext.trans u.1) (u.2 S.e.tabs)
  | ok ds =>
    rw [e] at h
    have hl : ds.length ≤ sizeLine := by rw [ha.len ρ ds e, sizeLine_eq]; omega
    intro xs H1 u r
    refine ⟨by rw [r.len]; exact hl, fun p hp => ?_⟩
    have ev : Evo T H1 (upd H1 p (.lst xs)) := (Up.new hp).evo
    exact h _ _ ((S.up u).newMu hp r) (u.evo.trans ev)
/-- x.append(e) -/
def appF (i : Nat) (r : Res PyData) (ρ : Rho) : Res Fl := match ρ[i]? with
  | some (some (.mu ds)) => r.bind fun d => if ds.length < 1000000 then .ok (.nx (ρ.set i (some (.mu (ds ++ [d]))))) else .stuck
  | _ => .stuck
theorem vs_app (i : Nat) {x : Str} {p1 p2 apos : Pos} (he : VE X T E e f) (hN : X.N[i]? = some x := by rfl) (hv : Vis X.env.scope x := by first | exact Or.inl rfl | exact Or.inr (Or.inl rfl) | exact Or.inr (Or.inr rfl)) (hd : (x == ("__debug__" : Str)) = false := by decide)
    (hcd : (x == ("__classdict__" : Str)) = false := by decide) (na : starEach [e] X.env = (false, eval e X.env) :: starEach [] X.env := by rfl)
    (hs : swapsWith (.Call (.Attribute (.Name x p1) "append" apos) [e] [] p2) none pos.line X.env = pure false := by rfl)
    (hbm : ∀ (to : TE) (t : TA), PE X (.Name x p1) to → PA X [e] t → PE X (.Call (.Attribute (.Name x p1) "append" apos) [e] [] p2) (tBM X.K "list" rAppend to t) := by
      intro to t ho ha; exact pe_bm PySem.F.plainAttrs_list PySem.F.slot_list_append PySem.F.type_list_append mt_append ho ha) :
    VS X T E H0 (.Expr (.Call (.Attribute (.Name x p1) "append" apos) [e] [] p2) pos) (fun ρ => appF i (f ρ) ρ) := by
  refine PS.rd (ps_expr (hbm _ _ (pe_var hN hv hd hcd) (pa_cons he pa_nil na)) hs) fun D σ H ⟨ρ, S, h⟩ => ?_
  have h : PostS X.K T E H0 (appF i (f ρ) ρ) D H := h
  unfold appF at h
  split at h
  · rename_i ds e1
    obtain ⟨p, vs, h1, h2, h3, h4, h5⟩ := S.mu i ds e1
    refine ⟨.ref p, h1, .inl ⟨rfl, _, .inl (.inl h2)⟩, ρ, S.e, (PostS.bind S h).imp fun v H1 u ⟨d, r, _, S1, q⟩ => ?_⟩
    obtain ⟨p', vs', g1, g2, g3, g4, g5⟩ := S1.mu i ds e1
    rw [h1] at g1
    injection g1 with g1; injection g1 with g1; injection g1 with g1
    subst g1
    split at q
    · rename_i hz
      refine ⟨p, vs', v, rfl, rfl, g2, by rw [g3.len, sizeLine_eq]; omega, ?_⟩
      exact q _ _ (S1.app e1 h1 g2 g3 g4 g5 r) (Evo.put ⟨vs', g2⟩)
    · exact q.elim
  · exact h.elim
/-- targets in a tuple -/
theorem vs_asg {tg : Expr} {is : List Nat} {g : PyData → Res (List PyData)} (he : VE X T E e f) (hg : VG X tg is g) (hs : swapsWithSole [tg] e pos.line X.env = pure false := by rfl) (hw : swappedStores [tg] e X.env = pure none := by rfl)
    (h1 : (assignEach [tg] X.env).map (·.2) = [assign tg X.env] := by rfl) : VS X T E H0 (.Assign [tg] e pos) (fun ρ => (f ρ).bind fun d => (noX (g d)).bind fun as => .ok (.nx (setsD ρ is as))) :=
  PS.rd (ps_asg he hg.pg hs hw h1) fun D σ H ⟨ρ, S, h⟩ => ⟨ρ, S.e, (PostS.bind S h).imp fun v H1 u ⟨d, r, _, S1, q⟩ => by
    cases eg : g d with
    | ok as =>
      rw [eg] at q
      exact ⟨d, as, r, eg, fun ws hw => q _ H1 (S1.sets hw) (Evo.refl H1)⟩
    | stuck => rw [eg] at q; exact q.elim
    | exc c => rw [eg] at q; exact q.elim⟩
/-- a, b = x, y with plain local names -/
theorem vs_par (i j : Nat) {x y : Str} {a b : Expr} {fa fb : Rho → Res PyData} {px py pt : Pos} {kt k2 : Nat} {pt2 : Pos} (hc : X.calm = true) (hN : X.N.Nodup) (ha : VE X T E a fa) (hb : VE X T E b fb) (hi : X.N[i]? = some x := by rfl) (hj : X.N[j]? = some y := by rfl) (hij : i ≠ j := by decide)
    (hx : X.env.scope.names.lookup x = some .local := by rfl) (hy : X.env.scope.names.lookup y = some .local := by rfl) (na : starEach [a, b] X.env = (false, eval a X.env) :: starEach [b] X.env := by rfl) (nb : starEach [b] X.env = (false, eval b X.env) :: starEach [] X.env := by rfl)
    (hw : swappedStores [.Tuple [.Name x px, .Name y py] kt pt] (.Tuple [a, b] k2 pt2) X.env = pure (some [x, y]) := by rfl) (hs : swapsWithSole [.Tuple [.Name x px, .Name y py] kt pt] (.Tuple [a, b] k2 pt2) pos.line X.env = pure false := by rfl) :
    VS X T E H0 (.Assign [.Tuple [.Name x px, .Name y py] kt pt] (.Tuple [a, b] k2 pt2) pos) (fun ρ => (fa ρ).bind fun d => (fb ρ).bind fun d' => .ok (.nx ((ρ.set i (some (.d d))).set j (some (.d d'))))) :=
  PS.rd (ps_par hc hN hi hj hij hx hy (pa_cons ha (pa_cons hb pa_nil nb) na) hw hs) fun D σ H ⟨ρ, S, h⟩ => ⟨ρ, S.e, (PostS.bind S h).imp fun v H1 u ⟨d, r, _, S1, q⟩ => ⟨ρ, S1.e, (PostS.bind S1 q).imp fun v2 H2 u2 ⟨d2, r2, _, S2, q2⟩ =>
    ⟨v, v2, rfl, q2 _ H2 ((S2.set (r.up u2)).set r2) (Evo.refl H2)⟩⟩⟩
/-- if -/
theorem vs_if {c : Expr} {ta : Rho → Res Bool} {a b : List Stmt} {F G : Rho → Res Fl} (hc : VT X T E c ta) (ha : VSs X T E H0 a F) (hb : VSs X T E H0 b G) : VS X T E H0 (.If c a b pos) (fun ρ => iteR (ta ρ) (F ρ) (G ρ)) :=
  PS.rd (ps_if hc ha hb) fun D σ H ⟨ρ, S, h⟩ => ⟨ρ, S.e, (PostS.bind (R := fun _ b a => b = a) S h).imp fun k H1 u ⟨d, r, _, S1, q⟩ => by
    subst r
    cases k with
    | true => exact iteT ⟨ρ, S1, q⟩
    | false => exact iteF ⟨ρ, S1, q⟩⟩
/-- for -/
def Fl.wp (ks : List Nat) : Fl → Res Fl
  | .nx ρ => .ok (.nx (wipeD ρ ks))
  | .ct ρ => .ok (.nx (wipeD ρ ks))
  | .bk ρ => .ok (.bk (wipeD ρ ks))
  | .rt d => .ok (.rt d)
def forL (g : PyData → Res (List PyData)) (is ks : List Nat) (F : Rho → Res Fl) : List PyData → Rho → Res Fl
  | [], ρ => .ok (.nx ρ)
  | d :: ds, ρ => (noX (g d)).bind fun as => ((F (setsD ρ is as)).bind (Fl.wp ks)).bind fun o => match o with
    | .nx ρ' => forL g is ks F ds ρ'
    | .bk ρ' => .ok (.nx ρ')
    | o => .ok o
theorem vs_for {tg iter : Expr} {body : List Stmt} {is : List Nat} {src : Rho → Res (List PyData)} {g : PyData → Res (List PyData)} (ks : List Nat) (hp : PassesOwn (model X.prog X.w) X.A X.env X.xe) (hc : X.calm = true) (hi : VI X T E tg iter src) (hg : VG X tg is g)
    (hb : VSs X T E H0 body F) (hs : ∀ x, foldedSetIterable iter X.env x = pure x := by intro _; rfl) : VS X T E H0 (.For tg iter body [] pos) (fun ρ => (src ρ).bind fun ds => forL g is ks F ds (wipeD ρ ks)) := by
  refine PS.rd (ps_for hp hc hi hg.pg hb hs) fun D σ H ⟨ρ, S, h⟩ => ⟨ρ, S.e, (PostS.bind (R := fun H' J ds => IterOk X.K T H' J ds) S h).imp fun J H1 u1 ⟨ds, it, _, S1, q⟩ => ?_⟩
  obtain ⟨Gg, Y, w, hG, hY⟩ := it.w
  refine for_it w (fun i σ' H' => ∃ ρ', SOk X.K T H0 σ' H' ρ' ∧ Evo T H1 H' ∧ PostS X.K T E H0 (forL g is ks F (ds.drop i) ρ') D H') ⟨_, S1.kill ks, Evo.refl H1, q⟩ (fun i σ' H' _ ⟨_, _, u, _⟩ => hG H' u) ?_ ?_
  · rintro i x σ2 H2 H3 hi' ⟨ρ2, S2, u2, q2⟩ y
    obtain ⟨u3, d, hd, rd⟩ := hY i H2 x H3 hi' u2 y
    have ed : ds.drop i = d :: ds.drop (i + 1) := by
      rw [List.drop_eq_getElem_cons hi']
      rw [List.getElem?_eq_getElem hi'] at hd
      rw [Option.some.inj hd]
    rw [ed] at q2
    unfold forL at q2
    cases eg : g d with
    | stuck => rw [eg] at q2; exact q2.elim
    | exc c => rw [eg] at q2; exact q2.elim
    | ok as =>
      rw [eg] at q2
      have q2 := PostS.evo q2 u3.evo
      refine ⟨d, as, rd, eg, fun ws hw => ⟨_, (S2.up u3).sets hw, ?_⟩⟩
      have q2 : PostS X.K T E H0 (((F (setsD ρ2 is as)).bind (Fl.wp ks)).bind fun o => match o with
        | .nx ρ' => forL g is ks F (ds.drop (i + 1)) ρ'
        | .bk ρ' => .ok (.nx ρ')
        | o => .ok o) D H3 := q2
      cases eF : F (setsD ρ2 is as) with
      | stuck => rw [eF] at q2; exact q2
      | exc c => rw [eF] at q2; exact q2
      | ok o =>
        rw [eF] at q2
        cases o with
        | nx ρ3 => exact fun σ4 H4 S4 u4 => ⟨_, S4.kill ks, u2.trans (u3.evo.trans u4), PostS.evo q2 u4⟩
        | ct ρ3 => exact fun σ4 H4 S4 u4 => ⟨_, S4.kill ks, u2.trans (u3.evo.trans u4), PostS.evo q2 u4⟩
        | bk ρ3 => exact fun σ4 H4 S4 u4 => q2 σ4 H4 (S4.kill ks) u4
        | rt d => exact q2
  · rintro σ2 H2 ⟨ρ2, S2, u2, q2⟩
    rw [List.drop_eq_nil_of_le (Nat.le_refl _)] at q2
    exact q2 σ2 H2 S2 (Evo.refl H2)
/-- while -/
def whileL (c : Rho → Res Bool) (F : Rho → Res Fl) : Nat → Rho → Res Fl
  | 0, _ => .stuck
  | n + 1, ρ => (c ρ).bind fun k => if k = true then (F ρ).bind fun o => match o with
    | .nx ρ' => whileL c F n ρ'
    | .ct ρ' => whileL c F n ρ'
    | .bk ρ' => .ok (.nx ρ')
    | .rt d => .ok (.rt d) else .ok (.nx ρ)
theorem vs_while (fuel : Rho → Nat) {c : Expr} {body : List Stmt} {ta : Rho → Res Bool} (hp : PassesOwn (model X.prog X.w) X.A X.env X.xe) (hc : VT X T E c ta) (hb : VSs X T E H0 body F) : VS X T E H0 (.While c body [] pos) (fun ρ => whileL ta F (fuel ρ) ρ) := by
  refine PS.rd (ps_while hp hc hb) fun D σ H ⟨ρ, S, h⟩ => ?_
  refine ⟨fun m σ' H' => ∃ ρ', SOk X.K T H0 σ' H' ρ' ∧ PostS X.K T E H0 (whileL ta F m ρ') D H', ⟨fuel ρ, ρ, S, h⟩, ?_⟩
  rintro m σ2 H2 ⟨ρ2, S2, q2⟩
  cases m with
  | zero => exact q2.elim
  | succ m =>
    unfold whileL at q2
    refine ⟨ρ2, S2.e, (PostS.bind (R := fun _ b a => b = a) S2 q2).imp fun k H3 u ⟨k', r, _, S3, q3⟩ => ?_⟩
    subst r
    cases k with
    | false => exact iteF (q3 σ2 H3 S3 (Evo.refl H3))
    | true =>
      refine iteT ⟨fun σ' H' => ∃ ρ', SOk X.K T H0 σ' H' ρ' ∧ PostS X.K T E H0 (whileL ta F m ρ') D H', fun σ' H' z => ⟨m, Nat.lt_succ_self m, z⟩, ρ2, S3, ?_⟩
      have q3 : PostS X.K T E H0 ((F ρ2).bind fun o => match o with
        | .nx ρ' => whileL ta F m ρ'
        | .ct ρ' => whileL ta F m ρ'
        | .bk ρ' => .ok (.nx ρ')
        | .rt d => .ok (.rt d)) D H3 := q3
      cases eF : F ρ2 with
      | stuck => rw [eF] at q3; exact q3
      | exc c => rw [eF] at q3; exact q3
      | ok o =>
        rw [eF] at q3
        cases o with
        | nx ρ3 => exact fun σ4 H4 S4 u4 => ⟨ρ3, S4, PostS.evo q3 u4⟩
        | ct ρ3 => exact fun σ4 H4 S4 u4 => ⟨ρ3, S4, PostS.evo q3 u4⟩
        | bk ρ3 => exact fun σ4 H4 S4 u4 => q3 σ4 H4 S4 u4
        | rt d => exact q3
/-- raise C('..') -/
theorem vs_raise {x m : Str} {j : Nat} {p p2 pos2 : Pos} (hc : X.calm = true) (tk : L2N.Takes X (fun cls d _ H => E cls d H)) (hx : PySem.W.excIn X.K (He.ga X.K x) He.veBase "ValueError.__new__" = true) (gC : X.mg x = some (.ref (He.ga X.K x))) (kC : PySem.W.keepIn X.K (.ref (He.ga X.K x)) = true)
    (r : Raises X (.ref (He.ga X.K x))) (hg : Gl X x) (hdb : (x == ("__debug__" : Str)) = false := by decide) : VS X T E H0 (.Raise (some (.Call (.Name x p) [.Constant (.str m) j p2] [] pos2)) none pos) (fun _ => .exc x) :=
  PS.rd (L2N.ps_raise hc tk (L2N.pmk_own PySem.F.excBase_ValueError hx gC kC r hg hdb)) fun D σ H ⟨ρ, S, h⟩ => h H S.ext S.e.tabs
end

/-! ### defs -/
/-- the promise: it hands back what g says, or raises it -/
def spD (K : PySem.W.Frag) (T : List (Addr × Str)) (n : Nat) (g : List PyData → Res PyData) : Sp := fun vs H Q E => ∃ ds, Rps K H vs ds ∧ ds.length = n ∧ Tabs T H ∧ Post K T E (Rp K) (g ds) H Q
/-- what a body makes of its arguments -/
def startD (n : Nat) (ds : List PyData) : Rho := ds.map (fun d => some (.d d)) ++ List.replicate (n - ds.length) none
def runF (n : Nat) (F : Rho → Res Fl) (ds : List PyData) : Res PyData := (F (startD n ds)).bind fun o => match o with
  | .rt d => .ok d
  | .nx _ => .ok .none
  | _ => .stuck
section
variable {P : Program} {w : World} {K : PySem.W.Frag} {mg : Str → Option Value} {base : Heap}
/-- what a body's context gives -/
structure BCx (X : Cx) (E : XK) (k : Nat) : Prop where
  calm : X.calm = true
  own : PassesOwn (model X.prog X.w) X.A X.env X.xe
  tk : L2N.Takes X (fun cls d _ H => E cls d H)
  hx : Passes (L2N.CX X.prog X.w) X E
  room : Room k X.A
  hu : X.A.units + 64 < cLine
theorem start_at {σ : L2.St} {H : Hp} {T : List (Addr × Str)} {N : List Str} {vs : List V} {ds : List PyData} (r : Rps K H vs ds) (t : Tabs T H) (hl : vs.length ≤ N.length) : SOk K T H (L2.start N vs) H (startD N.length ds) := by
  have e := r.len
  have none_ : ∀ (i : Nat) (z : Sl), (startD N.length ds)[i]? = some (some z) → ∃ d, z = .d d := fun i z h => by
    unfold startD at h
    by_cases hi : i < ds.length
    · rw [List.getElem?_append_left (by rw [List.length_map]; exact hi), List.getElem?_map, List.getElem?_eq_getElem hi] at h
      injection h with h; injection h with h
      exact ⟨_, h.symm⟩
    · rw [List.getElem?_append_right (by rw [List.length_map]; omega), List.getElem?_replicate] at h
      split at h <;> cases h
  refine ⟨⟨?_, t, fun i d h => ?_, fun i a h => ?_, fun i ks h => by obtain ⟨d, e⟩ := none_ i _ h; cases e⟩, ExtN.refl H, fun i xs h => ?_, fun i kvs h => by obtain ⟨d, e⟩ := none_ i _ h; cases e⟩
  · unfold L2.start startD
    rw [List.length_append, List.length_append, List.length_map, List.length_map, List.length_replicate, List.length_replicate, e]
  · unfold startD at h
    by_cases hi : i < ds.length
    · rw [List.getElem?_append_left (by rw [List.length_map]; exact hi), List.getElem?_map, List.getElem?_eq_getElem hi] at h
      have h : ds[i] = d := by injection h with h; injection h with h; injection h with h
      obtain ⟨v, h1, h2⟩ := r.get' (i := i) (d := d) (by rw [List.getElem?_eq_getElem hi, h])
      refine ⟨v, ?_, h2⟩
      unfold L2.start
      rw [List.getElem?_append_left (by rw [List.length_map, e]; exact hi), List.getElem?_map, h1]
      rfl
    · rw [List.getElem?_append_right (by rw [List.length_map]; omega), List.getElem?_replicate] at h
      split at h <;> cases h
  · unfold startD at h
    by_cases hi : i < ds.length
    · rw [List.getElem?_append_left (by rw [List.length_map]; exact hi), List.getElem?_map, List.getElem?_eq_getElem hi] at h
      injection h with h; injection h with h; cases h
    · rw [List.getElem?_append_right (by rw [List.length_map]; omega), List.getElem?_replicate] at h
      split at h <;> cases h
  · unfold startD at h
    by_cases hi : i < ds.length
    · rw [List.getElem?_append_left (by rw [List.length_map]; exact hi), List.getElem?_map, List.getElem?_eq_getElem hi] at h
      injection h with h; injection h with h; cases h
    · rw [List.getElem?_append_right (by rw [List.length_map]; omega), List.getElem?_replicate] at h
      split at h <;> cases h
/-- the code object that such a def bears -/
theorem code_of {x qual : Str} {params : Arguments} {body : List Stmt} {scope : Scope} {y : Str} {fd : FuncData} (Fd : FunD K x qual params body scope [] [] (He.ga K y) fd) : ∃ (oc : Value) (od : Option Addr) (dV kV doc pm : Value) (an : Option Addr) (cdv ct : Value) (osl : Array (Option Value)),
    fd = PySem.W.fnOf x qual params body scope dV kV doc pm an cdv ct ∧ K.lookup (He.ga K y) = some ⟨oc, od, .func fd, osl⟩ ∧ PySem.W.codeIn K cdv qual = true ∧ cdv = .ref (He.codeOf K (y, none)) := by
  obtain ⟨oc, od, dV, kV, doc, pm, an, cdv, ct, osl, e, lk, hcd, _, _⟩ := Fd.ex
  obtain ⟨c, ec⟩ := He.codeIn_ref hcd
  have lk' : K.lookup (He.fAd K (y, none)) = some ⟨oc, od, .func fd, osl⟩ := lk
  have h : fd.code = .ref c := by rw [e]; exact ec
  exact ⟨oc, od, dV, kV, doc, pm, an, cdv, ct, osl, e, lk, hcd, by rw [ec, He.codeOf_eq lk' h]⟩
theorem fn_px {x qual : Str} {params : Arguments} {body : List Stmt} {scope : Scope} {y : Str} {fd : FuncData} {N ps : List Str} {k : Nat} {T : List (Addr × Str)} {F : Rho → Res Fl} (Fd : FunD K x qual params body scope [] [] (He.ga K y) fd) (S : FnScope N ps scope)
    (hb : ∀ (cdv : Value) (A : Around) (outer : List Env) (s : Shared) (H : Hp) (E : XK), cdv = .ref (He.codeOf K (y, none)) → BCx (cxOf (L2N.CX P w) P w K mg base N qual scope (He.ga K y) cdv A outer s H E) E k → VSs (cxOf (L2N.CX P w) P w K mg base N qual scope (He.ga K y) cdv A outer s H E) T E H body F) :
    FnOk P w K mg base (L2N.CX P w) (k + 1) (He.ga K y) fd ps (spD K T ps.length (runF N.length F)) := by
  obtain ⟨oc, od, dV, kV, doc, pm, an, cdv, ct, osl, rfl, lk, hcd, hcode⟩ := code_of Fd
  refine fn_of lk hcd S (fun vs H Q E h => ?_) fun A outer s H vs Q E hr h => ?_
  · obtain ⟨ds, r, e, _⟩ := h
    rw [r.len, e]
  · obtain ⟨ds, r, e, t, q⟩ := h
    have tk : L2N.Takes (cxOf (L2N.CX P w) P w K mg base N qual scope (He.ga K y) cdv A outer s H E) (fun cls d _ H => E cls d H) := L2N.takes_of rfl rfl rfl (by rfl)
    have B : BCx (cxOf (L2N.CX P w) P w K mg base N qual scope (He.ga K y) cdv A outer s H E) E k := ⟨rfl, passes_of (by rfl), tk, L2N.passes_call tk fun _ _ _ _ h => h, hr, hr.units⟩
    have hl : vs.length ≤ N.length := by
      have h1 := congrArg List.length S.pre
      rw [List.length_take] at h1
      rw [r.len, e]
      omega
    refine ⟨_, hb cdv A outer s H E hcode B, startD N.length ds, start_at (σ := []) r t hl, ?_⟩
    unfold runF at q
    cases eF : F (startD N.length ds) with
    | stuck => rw [eF] at q; exact q
    | exc c =>
      rw [eF] at q
      exact fun H' u1 u2 => q H' ⟨u1, fun _ => u2⟩
    | ok o =>
      rw [eF] at q
      cases o with
      | nx ρ => exact fun σ' H' s' u => q .non H' ⟨s'.ext, fun _ => s'.e.tabs⟩ .non
      | rt d => exact fun v H' u1 u2 r' => q v H' ⟨u1, fun _ => u2⟩ r'
      | bk ρ => exact q.elim
      | ct ρ => exact q.elim
theorem passN {X : Cx} : Passes (L2N.CX X.prog X.w) X E0 := fun _ _ _ _ _ _ _ h => by
  obtain ⟨_, _, _, _, _, _, _, _, _, _, _, _, z⟩ := h
  exact z.elim
/-- a call of such a def -/
theorem v_call {X : Cx} {T : List (Addr × Str)} {E : XK} {k : Nat} {f : Addr} {fd : FuncData} {ps : List Str} {g : List PyData → Res PyData} {x : Str} {p pos : Pos} {e : Expr} {es : List Expr} {fs : Rho → Res (List PyData)} {n : Nat}
    (F : FnOk X.prog X.w X.K X.mg X.base (L2N.CX X.prog X.w) k f fd ps (spD X.K T n g)) (hr : Room k X.A) (hg : Gl X x) (hm : X.mg x = some (.ref f)) (hk : PySem.W.keepIn X.K (.ref f) = true) (hb : Binds X.K fd ps []) (hx : Passes (L2N.CX X.prog X.w) X E)
    (ha : VA X T E (e :: es) fs) (hn : (e :: es).length = n := by rfl) (hdb : (x == ("__debug__" : Str)) = false := by decide) (he : starEach (e :: es) X.env = (false, eval e X.env) :: starEach es X.env := by rfl) (hpl : (backTo pos (starEach es X.env)).any (·.1) = false := by rfl) :
    VE X T E (.Call (.Name x p) (e :: es) [] pos) (fun ρ => (fs ρ).bind g) :=
  PE.rd (pe_call F hr hg hm hk hb .nil hx ha.pa hdb he hpl) fun σ H Q ⟨ρ, S, h⟩ => ⟨ρ, S, by
    dsimp only at h
    cases e1 : fs ρ with
    | stuck => rw [e1] at h; exact h
    | exc c => rw [e1] at h; exact h
    | ok ds =>
      rw [e1] at h
      exact fun vs H1 u r => ⟨ds, by rw [List.append_nil]; exact r, by rw [ha.len ρ ds e1]; exact hn, u.2 S.tabs, Post.up h u⟩⟩
end
end PX

/-! the pure layer: a law's text -/
namespace PX
open PySem PySem.Spec PyProof.Rows L2 LamX
/-- what the top left, by names -/
structure Fc (fa : List He.Fa) (fn : List He.DefD) (K : PySem.W.Frag) (mg : Str → Option Value) : Prop where
  d : He.SaysD fa fn K
  h : ∃ hp : Heap, K.In hp ∧ hp.Ns mainGlobals mg
section
variable {fa : List He.Fa} {fn : List He.DefD} {K : PySem.W.Frag} {mg : Str → Option Value}
theorem Fc.glo (c : Fc fa fn K mg) (i : Nat) {x : Str} (h : fa[i]? = some (.glo x) := by rfl) : mg x = some (.ref (He.ga K x)) := by
  obtain ⟨hp, X, G⟩ := c.h
  exact He.glo_ok X G (c.d.fact i h)
theorem Fc.free (c : Fc fa fn K mg) (i : Nat) {x : Str} (h : fa[i]? = some (.free x) := by rfl) : mg x = none := by
  obtain ⟨hp, X, G⟩ := c.h
  exact He.free_ok X G (c.d.fact i h)
theorem Fc.int (c : Fc fa fn K mg) (i : Nat) {x : Str} {n : Int} (h : fa[i]? = some (.int x n) := by rfl) : ∃ t, mg x = some (.int n t) := by
  obtain ⟨hp, X, G⟩ := c.h
  exact He.int_ok X G (c.d.fact i h)
theorem Fc.str (c : Fc fa fn K mg) (i : Nat) {x z : Str} (h : fa[i]? = some (.str x z) := by rfl) : ∃ t, mg x = some (.str z t) := by
  obtain ⟨hp, X, G⟩ := c.h
  exact He.str_ok X G (c.d.fact i h)
end
/-- a def that keeps a pure promise -/
structure OkF (P : Program) (w : World) (K : PySem.W.Frag) (mg : Str → Option Value) (base : Heap) (T : List (Addr × Str)) (x : Str) (k : Nat) (ps : List Str) (g : List PyData → Res PyData) : Prop where
  ex : ∃ fd, FnOk P w K mg base (L2N.CX P w) k (He.ga K x) fd ps (spD K T ps.length g) ∧ Binds K fd ps []
  kp : PySem.W.keepIn K (.ref (He.ga K x)) = true
  gl : mg x = some (.ref (He.ga K x))
section
variable {P : Program} {w : World} {K : PySem.W.Frag} {mg : Str → Option Value} {base : Heap} {T : List (Addr × Str)}
theorem okF_mk {fa : List He.Fa} {fn : List He.DefD} {x : Str} {d : He.DefD} {N ps : List Str} {k : Nat} {F : Rho → Res Fl} (c : Fc fa fn K mg) (i j : Nat) (S : FnScope N ps d.scope)
    (hbind : ∀ (kV doc pm : Value) (an : Option Addr) (cdv ct : Value) (us : List Value), us.length = ps.length → bindArgs (PySem.W.fnOf d.name d.qual d.params d.body d.scope .none kV doc pm an cdv ct) ⟨us, []⟩ = pure (ps.zip us))
    (hb : ∀ (cdv : Value) (A : Around) (outer : List Env) (s : Shared) (H : Hp) (E : XK), cdv = .ref (He.codeOf K (x, none)) → BCx (cxOf (L2N.CX P w) P w K mg base N d.qual d.scope (He.ga K x) cdv A outer s H E) E k → VSs (cxOf (L2N.CX P w) P w K mg base N d.qual d.scope (He.ga K x) cdv A outer s H E) T E H d.body F)
    (hi : fn[i]? = some d := by rfl) (hj : fa[j]? = some (.glo x) := by rfl) (hat : d.at_ = (x, none) := by rfl) (h1 : d.dfl = [] := by rfl) (h2 : d.kwd = [] := by rfl) : OkF P w K mg base T x (k + 1) ps (runF N.length F) := by
  obtain ⟨fd, Fd⟩ := c.d.def_ i hi
  have e1 : d.dvs K = [] := by unfold He.DefD.dvs; rw [h1]; rfl
  have e2 : d.kws K = [] := by unfold He.DefD.kws; rw [h2]; rfl
  have e3 : He.fAd K d.at_ = He.ga K x := by rw [hat]; rfl
  rw [e1, e2, e3] at Fd
  exact ⟨⟨fd, fn_px Fd S hb, Fd.bindsN hbind⟩, Fd.kp, c.glo j hj⟩
theorem OkF.mono {x : Str} {j k : Nat} {ps : List Str} {g : List PyData → Res PyData} (F : OkF P w K mg base T x j ps g) (h : j ≤ k) : OkF P w K mg base T x k ps g := by
  obtain ⟨fd, h1, h2⟩ := F.ex
  exact ⟨⟨fd, h1.mono h, h2⟩, F.kp, F.gl⟩
end
theorem v_callF {X : Cx} {T : List (Addr × Str)} {E : XK} {j k : Nat} {ps : List Str} {g : List PyData → Res PyData} {x : Str} {p pos : Pos} {e : Expr} {es : List Expr} {fs : Rho → Res (List PyData)}
    (F : OkF X.prog X.w X.K X.mg X.base T x j ps g) (hr : Room k X.A) (hj : j ≤ k) (hx : Passes (L2N.CX X.prog X.w) X E) (hg : Gl X x) (ha : VA X T E (e :: es) fs) (hn : (e :: es).length = ps.length := by rfl) (hdb : (x == ("__debug__" : Str)) = false := by decide)
    (he : starEach (e :: es) X.env = (false, eval e X.env) :: starEach es X.env := by rfl) (hpl : (backTo pos (starEach es X.env)).any (·.1) = false := by rfl) : VE X T E (.Call (.Name x p) (e :: es) [] pos) (fun ρ => (fs ρ).bind g) := by
  obtain ⟨fd, h1, h2⟩ := F.ex
  exact v_call h1 (hr.mono hj) hg F.gl F.kp h2 hx ha hn hdb he hpl
theorem Fc.raise_ {X : Cx} {T : List (Addr × Str)} {E : XK} {H0 : Hp} {fa : List He.Fa} {fn : List He.DefD} (c : Fc fa fn X.K X.mg) (i j : Nat) {x m : Str} {n : Nat} {p p2 pos2 pos : Pos} (hc : X.calm = true) (tk : L2N.Takes X (fun cls d _ H => E cls d H)) (hg : Gl X x)
    (hi : fa[i]? = some (.exc x) := by rfl) (hj : fa[j]? = some (.glo x) := by rfl) (hdb : (x == ("__debug__" : Str)) = false := by decide) : VS X T E H0 (.Raise (some (.Call (.Name x p) [.Constant (.str m) n p2] [] pos2)) none pos) (fun _ => .exc x) := by
  obtain ⟨h1, h2, h3, h4⟩ := He.exc_ok (c.d.fact i hi)
  exact vs_raise hc tk h1 (c.glo j hj) h2 (raises_own h3 h4) hg hdb
/-- a number, for a bound of turns -/
def natOf (r : Res PyData) : Nat := match r with
  | .ok (.int i) => i.natAbs
  | _ => 0
end PX

/-! sorting, least of rows, order of rows, sorted sets, turned lists, counted walks -/
namespace PX
open PySem PySem.Spec PyProof.Rows L2 LamX
def notNone : PyData → Bool
  | .none => false
  | _ => true
def alikeL (xs : List PyData) : Bool := xs.all fun x => xs.all fun y => PySem.W.alike x y
def tupNE : PyData → Bool
  | .tuple (_ :: _) => true
  | _ => false
def sortableL (xs : List PyData) : Bool := xs.all tupNE || xs.all fun d => notNone d && !isTup d
def sortD : List PyData → Res PyData
  | [.list xs] => if alikeL xs = true ∧ sortableL xs = true ∧ xs.all (fun d => decide (d.depth ≤ 40)) = true then .ok (.list (xs.mergeSort (PySem.W.dataLe false id))) else .stuck
  | _ => .stuck
def minP : List PyData → Res PyData
  | [.list (x :: xs)] => if alikeL (x :: xs) = true ∧ (x :: xs).all notNone = true ∧ PyData.depthAll (x :: xs) ≤ 40 then .ok (PySem.W.minD x xs) else .stuck
  | _ => .stuck
def ltD (d d' : PyData) : Res PyData := if PySem.W.alike d d' = true ∧ notNone d = true ∧ d.depth ≤ 40 then .ok (.bool (PySem.W.dataLt d d')) else .stuck
def insU (n : Int) : List Int → List Int
  | [] => [n]
  | m :: r => if n < m then n :: m :: r else if n = m then m :: r else m :: insU n r
def sortU : List Int → List Int
  | [] => []
  | n :: r => insU n (sortU r)
theorem insU_mem (n k : Int) : ∀ l : List Int, k ∈ insU n l ↔ k = n ∨ k ∈ l
  | [] => by simp [insU]
  | m :: r => by
    unfold insU
    split
    · simp
    · split
      · rename_i h1 h2
        subst h2
        simp
      · simp only [List.mem_cons, insU_mem n k r]
        constructor
        · rintro (h | h | h)
          · exact .inr (.inl h)
          · exact .inl h
          · exact .inr (.inr h)
        · rintro (h | h | h)
          · exact .inr (.inl h)
          · exact .inl h
          · exact .inr (.inr h)
theorem sortU_mem (k : Int) : ∀ l : List Int, k ∈ sortU l ↔ k ∈ l
  | [] => Iff.rfl
  | n :: r => by
    show k ∈ insU n (sortU r) ↔ _
    rw [insU_mem, sortU_mem k r, List.mem_cons]
theorem insU_up (n : Int) : ∀ {l : List Int}, l.Pairwise (· < ·) → (insU n l).Pairwise (· < ·)
  | [], _ => List.pairwise_singleton _ _
  | m :: r, h => by
    obtain ⟨h1, h2⟩ := List.pairwise_cons.mp h
    unfold insU
    split
    · rename_i hl
      exact List.pairwise_cons.mpr ⟨fun y hy => by
        rcases List.mem_cons.mp hy with e | hy
        · subst e; exact hl
        · exact Int.lt_trans hl (h1 y hy), h⟩
    · split
      · exact h
      · refine List.pairwise_cons.mpr ⟨fun y hy => ?_, insU_up n h2⟩
        rcases (insU_mem n y r).mp hy with e | hy
        · subst e; omega
        · exact h1 y hy
theorem sortU_up : ∀ l : List Int, (sortU l).Pairwise (· < ·)
  | [] => List.Pairwise.nil
  | n :: r => insU_up n (sortU_up r)
theorem up_unique : ∀ {l m : List Int}, l.Pairwise (· < ·) → m.Pairwise (· < ·) → (∀ k, k ∈ l ↔ k ∈ m) → l = m
  | [], [], _, _, _ => rfl
  | [], b :: m, _, _, h => by cases (h b).mpr List.mem_cons_self
  | a :: l, [], _, _, h => by cases (h a).mp List.mem_cons_self
  | a :: l, b :: m, h1, h2, h => by
    obtain ⟨x1, x2⟩ := List.pairwise_cons.mp h1
    obtain ⟨y1, y2⟩ := List.pairwise_cons.mp h2
    have e : a = b := by
      rcases List.mem_cons.mp ((h a).mp List.mem_cons_self) with e | q
      · exact e
      · have q1 := y1 a q
        rcases List.mem_cons.mp ((h b).mpr List.mem_cons_self) with e | r
        · exact e.symm
        · have r1 := x1 b r
          omega
    subst e
    rw [up_unique x2 y2 fun k => ⟨fun hk => by
      rcases List.mem_cons.mp ((h k).mp (List.mem_cons_of_mem _ hk)) with e | q
      · subst e; exact absurd (x1 k hk) (by omega)
      · exact q, fun hk => by
      rcases List.mem_cons.mp ((h k).mpr (List.mem_cons_of_mem _ hk)) with e | q
      · subst e; exact absurd (y1 k hk) (by omega)
      · exact q⟩]
def ssetD : PyData → Res PyData
  | .tuple xs => (match intsOf xs with
    | some ns => if ns.length < 64 then .ok (.list ((sortU ns).map .int)) else .stuck
    | none => .stuck)
  | _ => .stuck
def revD : PyData → Res PyData
  | .list xs => .ok (.list xs.reverse)
  | .tuple xs => .ok (.tuple xs.reverse)
  | _ => .stuck
def enumD (d : PyData) : Res (List PyData) := (itD d).bind fun ds => .ok (ds.zipIdx.map fun p => .tuple [.int ((p.2 : Nat) : Int), p.1])
/-! ### operations whose rules stand elsewhere -/
def enumT : PyData → Res (List PyData)
  | .tuple ds => .ok (ds.zipIdx.map fun p => .tuple [.int ((p.2 : Nat) : Int), p.1])
  | _ => .stuck
def revT : PyData → Res PyData
  | .tuple xs => .ok (.tuple xs.reverse)
  | _ => .stuck
def repL {α : Type} (xs : List α) : Nat → List α
  | 0 => []
  | n + 1 => xs ++ repL xs n
def lrepD (ds : List PyData) : PyData → Res PyData
  | .int n => if ds.length * n.toNat ≤ 1000000 ∧ -1000000 ≤ n ∧ n ≤ 1000000 then .ok (.list (repL ds n.toNat)) else .stuck
  | _ => .stuck
def trepD (d d' : PyData) : Res PyData := match d, d' with
  | .tuple ds, .int n => if ds.length * n.toNat ≤ 1000000 then .ok (.tuple (repL ds n.toNat)) else .stuck
  | _, _ => .stuck
/-- what is told of a deed: its result, or the name of the class that it raised -/
def toldC (c : Str) : Bool := c == ("BadBelt" : Str) || c == ("BadPlan" : Str) || c == ("BadBottle" : Str) || c == ("BadNumber" : Str) || c == ("BadPaper" : Str) || c == ("BadText" : Str) || c == ("BadChance" : Str) || c == ("NoPlan" : Str)
def toldR (r : Res PyData) : Res PyData := match r with
  | .ok d => .ok d
  | .exc c => if toldC c = true then .ok (.str c) else .stuck
  | .stuck => .stuck
def strsOf : List PyData → Option (List Str)
  | [] => some []
  | .str b :: r => (strsOf r).map (b :: ·)
  | _ :: _ => none
section
variable {X : Cx} {T : List (Addr × Str)} {E : XK} {a b c e tg : Expr} {es : List Expr} {fa fb fc f : Rho → Res PyData} {p pos : Pos}
theorem notNone_ne {d : PyData} (h : notNone d = true) : d ≠ .none := fun z => by rw [z] at h; cases h
/-! ### order of rows -/
def rLtD (K : PySem.W.Frag) : R2 := fun x y H Q => ∃ d d', Rp K H x d ∧ Rp K H y d' ∧ PySem.W.alike d d' = true ∧ d ≠ .none ∧ d.depth ≤ 40 ∧ Q (.bl (PySem.W.dataLt d d')) H
theorem s_ltD (hu : X.A.units + 64 < cLine) : OpR X (compareOp .Lt) (rLtD X.K) := by
  intro pins s σ H x y v u Q I rx ry h
  obtain ⟨d, d', hd, he, al, nn, dp, q⟩ := h
  obtain ⟨as, r1⟩ := Dp.reads I d x v hd.dp.1 rx
  obtain ⟨bs, r2⟩ := Dp.reads I d' y u he.dp.1 ry
  exact PySem.W.lt_data r1 r2 al nn (by omega) ⟨.bl _, H, I, rfl, q⟩
theorem n_ltD : Serves0 X T E (rLtD X.K) ltD := by
  intro x y d d' H Q rx ry h
  unfold ltD at h
  split at h
  · rename_i c
    exact ⟨d, d', rx, ry, c.1, notNone_ne c.2.1, c.2.2, h _ _ (Up.refl H) (.bl _)⟩
  · exact h.elim
/-! ### the least of rows -/
def rMinRows (K : PySem.W.Frag) : List V → Hp → VK → Prop := fun vs H Q => ∃ (l : Addr) (ys : List V) (x : PyData) (xs : List PyData), vs = [.ref l] ∧ SqF K H l ys ∧ Rps K H ys (x :: xs) ∧ alikeL (x :: xs) = true ∧ (x :: xs).all notNone = true ∧ PyData.depthAll (x :: xs) ≤ 40 ∧
  ∀ v, Rp K H v (PySem.W.minD x xs) → Q v H
theorem alikeL_at {xs : List PyData} (h : alikeL xs = true) : ∀ x ∈ xs, ∀ y ∈ xs, PySem.W.alike x y = true := fun x hx y hy => List.all_eq_true.mp (List.all_eq_true.mp h x hx) y hy
theorem minD_mem (xs : List PyData) : ∀ x : PyData, PySem.W.minD x xs ∈ x :: xs := by
  induction xs with
  | nil => exact fun x => List.mem_cons_self
  | cons y r ih =>
    intro x
    show (List.foldl _ (if PySem.W.dataLt y x then y else x) r) ∈ _
    split
    · exact List.mem_cons_of_mem _ (ih y)
    · rcases List.mem_cons.mp (ih x) with e | h
      · exact List.mem_cons.mpr (.inl e)
      · exact List.mem_cons_of_mem _ (List.mem_cons_of_mem _ h)
theorem s_minP (hc : X.calm = true) (hu : X.A.units + 64 < cLine) : CallR X (.builtin "min") (rMinRows X.K) := by
  intro pins s σ H vs us Q I r h
  obtain ⟨l, ys, x, xs, rfl, hs, hr, al, nn, dp, q⟩ := h
  obtain ⟨its, rv, hl, _⟩ := I.list hs.l
  rw [Vals.ref1 r]
  obtain ⟨as, rd⟩ := Dp.readsAll I (x :: xs) ys its hr.dp.1 rv
  have rd' : ReadsAll s.heap its.toArray.toList (x :: xs) as := rd
  refine PySem.W.min_list_data (I.ok.hd hc) hl.isList rd' ⟨alikeL_at al, fun y hy => notNone_ne (List.all_eq_true.mp nn y hy)⟩ (by omega) fun i v h' tk bs hv hrd hk => ?_
  have hv' : its[i]? = some v := by simpa using hv
  obtain ⟨cs, r2, hi, hm, _⟩ := PySem.W.readsAll_at rd i v hv'
  have r3 := PySem.W.reads_keeps hk r2
  have e := PySem.W.alike_unique _ _ _ _ _ (alikeL_at al _ hm _ (minD_mem xs x)) r3 hrd
  have hlen : i < ys.length := by
    rw [rv.length]
    exact (List.getElem?_eq_some_iff.mp hv').1
  obtain ⟨u, hu1, hu2⟩ := rv.get (List.getElem?_eq_getElem hlen)
  have eu : u = v := by rw [hv'] at hu1; exact (Option.some.inj hu1).symm
  subst eu
  obtain ⟨d, hd1, hd2⟩ := hr.get (List.getElem?_eq_getElem hlen)
  have ed : d = (x :: xs).getD i .none := by rw [List.getD_eq_getElem?_getD, hd1]; rfl
  rw [ed, e] at hd2
  exact ⟨_, H, I.kept hk, hu2, q _ hd2⟩
theorem n_minP : ServesC X T E (rMinRows X.K) minP := by
  intro vs ds H Q r h
  unfold minP at h
  split at h
  · obtain ⟨v, rfl, q⟩ := r.one
    cases q with
    | lst s r z =>
      split at h
      · rename_i c
        exact ⟨_, _, _, _, rfl, s, r, c.1, c.2.1, c.2.2, fun v rv => .inl (h v H (Up.refl H) rv)⟩
      · exact h.elim
  · exact h.elim
/-! ### sorted -/
def rSortD (K : PySem.W.Frag) : List V → Hp → VK → Prop := fun vs H Q => ∃ (l : Addr) (ys : List V) (xs : List PyData), vs = [.ref l] ∧ SqF K H l ys ∧ Rps K H ys xs ∧ xs.length ≤ sizeLine ∧ alikeL xs = true ∧ sortableL xs = true ∧ xs.all (fun d => decide (d.depth ≤ 40)) = true ∧
  ∀ zs p, Rps K H zs (xs.mergeSort (PySem.W.dataLe false id)) → H p = none → Q (.ref p) (upd H p (.lst zs))
theorem tupNE_of {d : PyData} (h : tupNE d = true) : ∃ x r, d = .tuple (x :: r) := by
  unfold tupNE at h
  split at h
  · exact ⟨_, _, rfl⟩
  · cases h
theorem sortable_of {xs : List PyData} (h : sortableL xs = true) : PySem.W.Sortable xs := by
  unfold sortableL at h
  rcases (Bool.or_eq_true _ _).mp h with h | h
  · exact .inl fun d hd => tupNE_of (List.all_eq_true.mp h d hd)
  · refine .inr fun d hd => ?_
    have z := List.all_eq_true.mp h d hd
    rw [Bool.and_eq_true] at z
    exact ⟨notNone_ne z.1, fun ys e => by rw [e] at z; cases z.2⟩
theorem each_of {K : PySem.W.Frag} {H : Hp} : ∀ {ds : List PyData} {vs : List V} {us : List Value}, Rps K H vs ds → Vals vs us → PySem.W.EachIs (fun u d => ∃ v, RelV v u ∧ Rp K H v d) us ds
  | _, _, _, .nil, h => by cases h; exact .nil
  | _, _, _, .cons r t, h => by
    cases h with
    | cons q z => exact .cons ⟨_, q, r⟩ (each_of t z)
theorem of_each {K : PySem.W.Frag} {H : Hp} : ∀ {ds : List PyData} {us : List Value}, PySem.W.EachIs (fun u d => ∃ v, RelV v u ∧ Rp K H v d) us ds → ∃ vs, Vals vs us ∧ Rps K H vs ds
  | _, _, .nil => ⟨[], .nil, .nil⟩
  | _, _, .cons ⟨v, q, r⟩ t => by
    obtain ⟨vs, h1, h2⟩ := of_each t
    exact ⟨v :: vs, .cons q h1, .cons r h2⟩
theorem each_reads {X : Cx} {pins : List (Addr × Obj)} {σ : L2.St} {H : Hp} {s : Shared} (I : Inv X pins σ H s) : ∀ {ds : List PyData} {vs : List V} {us : List Value}, Rps X.K H vs ds → Vals vs us → PySem.W.EachIs (fun u d => ∃ as, Reads s.heap u d as) us ds
  | _, _, _, .nil, h => by cases h; exact .nil
  | _, _, _, .cons r t, h => by
    cases h with
    | cons q z => exact .cons (Dp.reads I _ _ _ r.dp.1 q) (each_reads I t z)
theorem each_len {α β : Type} {R : α → β → Prop} {as : List α} {bs : List β} (h : PySem.W.EachIs R as bs) : as.length = bs.length := by
  induction h with
  | nil => rfl
  | cons _ _ ih => exact congrArg (· + 1) ih
theorem s_sortD (hu : X.A.units + 64 < cLine) : CallR X (.builtin "sorted") (rSortD X.K) := by
  intro pins s σ H vs us Q I r h
  obtain ⟨l, ys, xs, rfl, hs, hr, hz, al, so, dp, q⟩ := h
  obtain ⟨its, rv, hl, _⟩ := I.list hs.l
  rw [Vals.ref1 r]
  refine PySem.W.sorted_data (enc := id) hl.isList (each_of hr rv) (each_reads I hr rv) (by rw [List.map_id]; exact alikeL_at al) (by rw [List.map_id]; exact sortable_of so) hz (fun b hb => ?_) fun out ho eo => ?_
  · have z := of_decide_eq_true (List.all_eq_true.mp dp b hb)
    show X.A.units + 2 + b.depth < cLine
    omega
  · obtain ⟨zs, h1, h2⟩ := of_each eo
    obtain ⟨ep, he'⟩ := PyProof.Rows.sortedAll_at s.heap its out.toArray
    have hlen : zs.length ≤ sizeLine := by rw [h1.length, ho]; exact hz
    exact ⟨.ref _, upd H (s.heap.objs.size + 1) (.lst zs), I.laid (t' := s.toks) (fun _ _ => PyProof.Rows.sortedAll_old) (Nat.le_succ _) ⟨hlen, out, ep, h1, he'⟩, rfl, q zs _ h2 (I.hok.fresh (Nat.le_succ _))⟩
theorem n_sortD : ServesC X T E (rSortD X.K) sortD := by
  intro vs ds H Q r h
  unfold sortD at h
  split at h
  · rename_i xs
    obtain ⟨v, rfl, q⟩ := r.one
    cases q with
    | lst s r z =>
      split at h
      · rename_i c
        refine ⟨_, _, _, rfl, s, r, z, c.1, c.2.1, c.2.2, fun zs p hz hp => fz_new h hz ?_ p hp⟩
        rw [List.length_mergeSort]
        exact z
      · exact h.elim
  · exact h.elim
/-! ### sorted(set(t)) -/
def rSetTI (K : PySem.W.Frag) (w : World) : List V → Hp → VK → Prop := fun vs H Q => ∃ (l : Addr) (ns : List Int), vs = [.ref l] ∧ SqT K H l (ns.map V.int) ∧ ns.length < 64 ∧ ∀ p c, H p = none → c ≤ ns.length → Q (.ref p) (upd H p (SetO w p (fun j => decide (j ∈ ns)) c))
theorem cr_setTI (hc : X.calm = true) : CallR X (.type "set") (rSetTI X.K X.w) := by
  intro pins s σ H vs us Q I r h
  obtain ⟨l, ns, rfl, hs, hz, q⟩ := h
  obtain ⟨its, rv, pt, _⟩ := I.tuple hs
  rw [Vals.ref1 r]
  have hi : IntsAre its.toArray.toList ns := ints_of_vals rv
  refine call_set_tupI ns (I.ok.hd hc) (show s.heap.IsTuple l its.toArray from pt) hi (by unfold scanBound; omega) fun h' tk c R1 hcn k => ?_
  exact ⟨.ref _, upd H s.heap.objs.size (SetO X.w s.heap.objs.size (fun j => decide (j ∈ ns)) c), I.laid (t' := tk) k (Nat.le_refl _) (setO_new R1), rfl, q _ _ (I.hok.fresh (Nat.le_refl _)) hcn⟩
theorem v_sset {p2 p3 : Pos} (hc : X.calm = true) (hg : Gl X "sorted") (hm : X.mg "sorted" = none) (hg2 : Gl X "set") (hm2 : X.mg "set" = none) (ha : VE X T E a fa) (na : starEach [a] X.env = (false, eval a X.env) :: starEach [] X.env := by rfl)
    (na2 : starEach [.Call (.Name "set" p2) [a] [] p3] X.env = (false, eval (.Call (.Name "set" p2) [a] [] p3) X.env) :: starEach [] X.env := by rfl) :
    VE X T E (.Call (.Name "sorted" p) [.Call (.Name "set" p2) [a] [] p3] [] pos) (fun ρ => (fa ρ).bind ssetD) := by
  have h1 := pe_callTy (pos := p3) (p := p2) (cr_setTI hc) hg2 hm2 (by decide +kernel) (pa_cons ha pa_nil na) (he := na) (hpl := rfl)
  refine PE.rd (PE.fz (pe_callB (cr_sortedSet hc) hg hm (by decide +kernel) (pa_cons h1 pa_nil na2) (he := na2) (hpl := rfl))) fun σ H Q ⟨ρ, S, h⟩ => ⟨ρ, S, (Post.bind h).imp fun v H1 u1 ⟨d, rx, _, h3⟩ => ?_⟩
  unfold ssetD at h3
  split at h3
  · rename_i xs
    split at h3
    · rename_i ns en
      split at h3
      · rename_i hz
        cases rx with
        | tup s r z =>
          have ev := intsOf_rps r en
          subst ev
          refine ⟨_, ns, rfl, s, hz, fun q c hq hc => ?_⟩
          refine ⟨q, _, c, rfl, upd_same, Nat.lt_of_le_of_lt hc hz, fun ms p' up mem hl hp => ?_⟩
          have em : ms = sortU ns := up_unique up (sortU_up ns) fun k => by
            rw [mem k, sortU_mem, decide_eq_true_eq]
          subst em
          refine fz_new (Post.up h3 (Up.new hq)) (ints_rps _) ?_ p' hp
          rw [List.length_map, hl, sizeLine_eq]
          omega
      · exact h3.elim
    · exact h3.elim
  · exact h3.elim
/-! ### turned lists -/
theorem Rps.reverse {K : PySem.W.Frag} {H : Hp} : ∀ {ds : List PyData} {vs : List V}, Rps K H vs ds → Rps K H vs.reverse ds.reverse
  | _, _, .nil => .nil
  | _, _, .cons r t => by
    rw [List.reverse_cons, List.reverse_cons]
    exact (Rps.reverse t).append (.cons r .nil)
def revL : PyData → Res PyData
  | .list xs => .ok (.list xs.reverse)
  | _ => .stuck
theorem v_revL {k : Nat} {p1 p2 p3 : Pos} (ha : VE X T E a fa) : VE X T E (.Subscript a (.Slice none none (some (.UnaryOp .USub (.Constant (.int 1) k p1) p2)) p3) pos) (fun ρ => (fa ρ).bind revL) :=
  PE.rd (PE.fz (pe_revL ha)) fun σ H Q ⟨ρ, S, h⟩ => ⟨ρ, S, (Post.bind h).imp fun v H1 u1 ⟨d, rx, _, h3⟩ => by
    cases d with
    | list xs =>
      cases rx with
      | lst s r z =>
        refine ⟨_, _, rfl, s.l, fun p hp => fz_new h3 r.reverse ?_ p hp⟩
        rw [List.length_reverse]
        exact z
    | _ => exact h3.elim⟩
/-! ### enumerate(list) -/
def enumL : PyData → Res (List PyData)
  | .list ds => .ok (ds.zipIdx.map fun p => .tuple [.int ((p.2 : Nat) : Int), p.1])
  | _ => .stuck
theorem vi_enumL {tpos : Pos} {elts : List Expr} {kk : Nat} (hg : Gl X "enumerate") (hm : X.mg "enumerate" = none) (ha : VE X T E a fa) (hs : starEach [a] X.env = [(false, eval a X.env)] := by rfl) (na : starEach [a] X.env = (false, eval a X.env) :: starEach [] X.env := by rfl) :
    VI X T E (.Tuple elts kk tpos) (.Call (.Name "enumerate" p) [a] [] pos) (fun ρ => (fa ρ).bind enumL) :=
  PI.rd (pi_enum hg hm (pa_cons ha pa_nil na) hs) fun σ H R ⟨ρ, S, h⟩ => ⟨ρ, S, (Post.bind h).imp fun v H1 u1 ⟨d, rx, _, h3⟩ => by
    cases d with
    | list ds =>
      cases rx with
      | lst s r z =>
        refine ⟨_, _, rfl, s.l, h3 _ _ (Up.refl H1) ⟨?_, _, _, (by
          rw [List.length_map, List.length_zipIdx, ← r.len]
          exact walk_enum), fun H' u => (s.evo u).l, fun i H2 x H4 hi u y => ?_⟩⟩
        · rw [List.length_map, List.length_zipIdx]
          exact z
        · obtain ⟨P, x1, y1, rfl, hP, e4, g1, g2⟩ := y
          cases g1
          obtain ⟨d', h1', h2'⟩ := (r.evo u).get g2
          obtain ⟨k1, k2⟩ := iter_pair (T := T) (.int ((i : Nat) : Int)) h2' hP e4
          refine ⟨k1, _, ?_, k2⟩
          rw [List.getElem?_map, List.getElem?_zipIdx, h1']
          simp
    | _ => exact h3.elim⟩
/-! ### [..] * n -/
theorem Rps.rep {K : PySem.W.Frag} {H : Hp} {ds : List PyData} {vs : List V} (r : Rps K H vs ds) : ∀ n : Nat, Rps K H (List.replicate n vs).flatten (repL ds n)
  | 0 => .nil
  | n + 1 => by
    rw [List.replicate_succ, List.flatten_cons]
    exact r.append (Rps.rep r n)
theorem repL_len {α : Type} (ds : List α) : ∀ n : Nat, (repL ds n).length = ds.length * n
  | 0 => rfl
  | n + 1 => by
    show (ds ++ repL ds n).length = _
    rw [List.length_append, repL_len ds n, Nat.mul_succ, Nat.add_comm]
theorem v_lrep {fs : Rho → Res (List PyData)} {lpos : Pos} (h : VA X T E es fs) (hb : VE X T E b fb) (hz : es.length ≤ 1000 := by decide) : VE X T E (.BinOp (.List es lpos) .Mult b pos) (fun ρ => (fs ρ).bind fun ds => (fb ρ).bind fun d => lrepD ds d) :=
  PE.rd (PE.fz (pe_op op_rep (pe_lst h.pa) hb)) fun σ H Q ⟨ρ, S, q⟩ => ⟨ρ, S, by
    dsimp only at q
    cases e : fs ρ with
    | stuck => rw [e] at q; exact q
    | exc c => rw [e] at q; exact q
    | ok ds =>
      rw [e] at q
      have q : Post X.K T E (Rp X.K) ((fb ρ).bind fun d => lrepD ds d) H Q := q
      have hl : ds.length ≤ 1000 := by rw [h.len ρ ds e]; exact hz
      refine fun xs H1 u1 r => ⟨by rw [r.len, sizeLine_eq]; omega, fun p hp => ⟨ρ, (S.up u1).up (Up.new hp), (Post.bind (Post.up q (u1.trans (Up.new hp)))).imp fun y H2 u2 ⟨d, ry, _, h4⟩ => ?_⟩⟩
      cases d with
      | int n =>
        cases ry
        have h4 : Post X.K T E (Rp X.K) (lrepD ds (.int n)) H2 Q := h4
        unfold lrepD at h4
        dsimp only at h4
        split at h4
        · rename_i hn
          have e2 : H2 p = some (.lst xs) := u2.1 p _ upd_same (fun ps z => by cases z)
          have r2 := (r.up (Up.new (T := T) hp)).up u2
          have hlen : (repL ds n.toNat).length ≤ sizeLine := by rw [repL_len, sizeLine_eq]; omega
          exact ⟨p, n, xs, rfl, rfl, e2, by omega, by omega, by rw [r.len, sizeLine_eq]; omega, fun q hq => fz_new h4 (r2.rep n.toNat) hlen q hq⟩
        · exact h4.elim
      | _ => exact h4.elim⟩
end
end PX

/-! the law's own def: its one list is frozen at the entry -/
namespace PX
open PySem PySem.Spec PyProof.Rows L2 LamX
section
variable {P : Program} {w : World} {K : PySem.W.Frag} {mg : Str → Option Value} {base : Heap}
def spLaw (K : PySem.W.Frag) (T : List (Addr × Str)) (g : List PyData → Res PyData) : Sp := fun vs H Q E => ∃ (a : Addr) (ns : List Int), vs = [.ref a] ∧ SqL K H a (ns.map V.int) ∧ ns.length ≤ 1000000 ∧ Tabs T H ∧ g [.list (ns.map .int)] = .ok (.bool true) ∧ ∀ H', Q (.bl true) H'
theorem law_fn {x qual : Str} {params : Arguments} {body : List Stmt} {scope : Scope} {y : Str} {fd : FuncData} {N ps : List Str} {k : Nat} {T : List (Addr × Str)} {F : Rho → Res Fl} (Fd : FunD K x qual params body scope [] [] (He.ga K y) fd) (S : FnScope N ps scope) (h1 : ps.length = 1)
    (hb : ∀ (cdv : Value) (A : Around) (outer : List Env) (s : Shared) (H : Hp) (E : XK) (H0 : Hp), cdv = .ref (He.codeOf K (y, none)) → BCx (cxOf (L2N.CX P w) P w K mg base N qual scope (He.ga K y) cdv A outer s H E) E k → VSs (cxOf (L2N.CX P w) P w K mg base N qual scope (He.ga K y) cdv A outer s H E) T E H0 body F) :
    FnOk P w K mg base (L2N.CX P w) (k + 1) (He.ga K y) fd ps (spLaw K T (runF N.length F)) := by
  obtain ⟨oc, od, dV, kV, doc, pm, an, cdv, ct, osl, rfl, lk, hcd, hcode⟩ := code_of Fd
  refine fn_of lk hcd S (fun vs H Q E h => ?_) fun A outer s H vs Q E hr h => ?_
  · obtain ⟨a, ns, rfl, _⟩ := h
    exact h1.symm
  · obtain ⟨a, ns, rfl, hs, hz, t, e, q⟩ := h
    have tk : L2N.Takes (cxOf (L2N.CX P w) P w K mg base N qual scope (He.ga K y) cdv A outer s H E) (fun cls d _ H => E cls d H) := L2N.takes_of rfl rfl rfl (by rfl)
    have B : BCx (cxOf (L2N.CX P w) P w K mg base N qual scope (He.ga K y) cdv A outer s H E) E k := ⟨rfl, passes_of (by rfl), tk, L2N.passes_call tk fun _ _ _ _ h => h, hr, hr.units⟩
    have hl : 1 ≤ N.length := by
      have h2 := congrArg List.length S.pre
      rw [List.length_take] at h2
      omega
    have key : ∀ H1 : Hp, SqF K H1 a (ns.map V.int) → Tabs T H1 → (∀ D : Ends, (∀ v H', v = V.bl true → D.rt v H') → tS K T E H1 F D (L2.start N [.ref a]) H1) := fun H1 sf t1 D hD => by
      have rp : Rps K H1 [.ref a] [.list (ns.map .int)] := .cons (.lst sf (ints_rps ns) (by rw [List.length_map, sizeLine_eq]; omega)) .nil
      refine ⟨startD N.length [.list (ns.map .int)], start_at (σ := []) rp t1 hl, ?_⟩
      unfold runF at e
      cases eF : F (startD N.length [.list (ns.map .int)]) with
      | stuck => rw [eF] at e; cases e
      | exc c => rw [eF] at e; cases e
      | ok o =>
        rw [eF] at e
        cases o with
        | rt d =>
          cases e
          exact fun v H' _ _ r' => hD v H' (by cases r'; rfl)
        | nx ρ => cases e
        | bk ρ => cases e
        | ct ρ => cases e
    by_cases hm : SqF K H a (ns.map V.int)
    · exact ⟨_, hb cdv A outer s H E H hcode B, key H hm t _ fun v H' ev => by subst ev; exact q H'⟩
    · have hm2 : H a = some (.lst (ns.map V.int)) := by
        rcases hs with (h | h) | h
        · exact h
        · exact absurd (.inl h) hm
        · exact absurd (.inr h) hm
      refine ⟨_, PSs.rd (PSs.fz0 (t := fun D σ H' => ∃ H0, tS K T E H0 F D σ H') ⟨fun pins s' σ H' D I ⟨H0, h⟩ => (hb cdv A outer s H E H0 hcode B).run pins s' σ H' D I h⟩) (t' := fun D σ H' => ∃ a xs, H' a = some (.lst xs) ∧ ∀ o, ∃ H0, tS K T E H0 F D σ (upd H' a (.frz o (.lst xs)))) fun D σ H' h => .inr h, a, _, hm2, fun o => ⟨_, key (upd H a (.frz o (.lst (ns.map V.int)))) (.inl ⟨o, upd_same⟩) (Tabs.put t ⟨_, hm2⟩) _ fun v H' ev => by subst ev; exact q H'⟩⟩
theorem law_at {fa : List He.Fa} {fn : List He.DefD} {x : Str} {d : He.DefD} {N ps : List Str} {k : Nat} {T : List (Addr × Str)} {F : Rho → Res Fl} (c : Fc fa fn K mg) (i j : Nat) (S : FnScope N ps d.scope) (hp : ps.length = 1)
    (hbind : ∀ (kV doc pm : Value) (an : Option Addr) (cdv ct : Value) (us : List Value), us.length = ps.length → bindArgs (PySem.W.fnOf d.name d.qual d.params d.body d.scope .none kV doc pm an cdv ct) ⟨us, []⟩ = pure (ps.zip us))
    (hi : fn[i]? = some d := by rfl) (hj : fa[j]? = some (.glo x) := by rfl) (hat : d.at_ = (x, none) := by rfl) (h1 : d.dfl = [] := by rfl) (h2 : d.kwd = [] := by rfl) :
    mg x = some (.ref (He.ga K x)) ∧ ∃ fd, (∀ (s : Shared) (u : Value), BindsTo s fd ⟨[u], []⟩ (ps.zip [u])) ∧
      ∀ base : Heap, (∀ (cdv : Value) (A : Around) (outer : List Env) (s : Shared) (H : Hp) (E : XK) (H0 : Hp), cdv = .ref (He.codeOf K (x, none)) → BCx (cxOf (L2N.CX P w) P w K mg base N d.qual d.scope (He.ga K x) cdv A outer s H E) E k → VSs (cxOf (L2N.CX P w) P w K mg base N d.qual d.scope (He.ga K x) cdv A outer s H E) T E H0 d.body F) →
        FnOk P w K mg base (L2N.CX P w) (k + 1) (He.ga K x) fd ps (spLaw K T (runF N.length F)) := by
  obtain ⟨fd, Fd⟩ := c.d.def_ i hi
  have e1 : d.dvs K = [] := by unfold He.DefD.dvs; rw [h1]; rfl
  have e2 : d.kws K = [] := by unfold He.DefD.kws; rw [h2]; rfl
  have e3 : He.fAd K d.at_ = He.ga K x := by rw [hat]; rfl
  rw [e1, e2, e3] at Fd
  have b := FunD.bindsA (ps := ps) Fd hbind
  exact ⟨c.glo j hj, fd, fun s u => b s [u] hp.symm, fun base hb => law_fn Fd S hp hb⟩
end
end PX

/-! what runs while an exception is handled: lists walked, summed, comprehended -/
namespace PX
open PySem PySem.Spec PyProof.Rows L2 LamX HotX L2H
section
variable {prog : Program} {w : World} {A : Around} {E : Value → Shared → Prop} {s : Shared}
/-- a list's iterator at its end -/
theorem next_list_end_hot {it l x1 : Addr} {i : Nat} {items : Array Value} {Q : Option Value → Shared → Prop} (hot : HotAt A x1 s.heap) (hit : s.heap.IsListIter it l i) (hl : s.heap.IsList l items) (hx : items[i]? = none) (hne : x1 ≠ it)
    (hQ : ∀ h', Heap.ExtBut it s.heap h' → Q none { s with heap := h' }) : wpAny (model prog w) A (pyNext (.ref it)) Q E s := by
  obtain ⟨oi, gi, ci, di⟩ := id hit
  obtain ⟨oL, gL, _, nL, dL⟩ := hl
  obtain ⟨hh, oX, vX, gX, dX, cX⟩ := hot
  unfold pyNext
  refine wpAny_bind (wpAny_attempt (wpAny_callSpecial?_slot (name := Str.ofString "__next__") hit.typeIs slot_listiter_next (wpAny_call_entry slot_listiter_next hit.typeIs entry_listiter_next ?_ (args_listiter_next _))))
  (show wpAny _ _ (field (.ref it) 0 >>= _) _ _ s); refine wpAny_bind (wpAny_field gi di (x := .ref l) rfl ?_)
  (show wpAny _ _ (if (Value.ref l == Value.none) = true then _ else _) _ _ s); rw [if_neg (show ¬ ((Value.ref l == Value.none) = true) from Bool.false_ne_true)]
  (show wpAny _ _ (field (.ref it) 1 >>= _) _ _ s); refine wpAny_bind (wpAny_field gi di (x := .int i 0) rfl ?_)
  (show wpAny _ _ (seqItems? (.ref l) >>= _) _ _ s); refine wpAny_bind (wpAny_seqItems gL dL ?_)
  simp only [Int.toNat_natCast, hx]
  refine wpAny_bind (wpAny_rule (wpAny_bind (wpAny_setField gi di (by simp) ?_)))
  (show wpAny _ _ (newExc (.type "StopIteration") [] >>= _) _ _ _); refine wpAny_bind ?_
  simp only [newExc, newTuple]
  refine wpAny_bind (wpAny_newObj_type ?_ (by size_fits))
  refine wpAny_bind (m := firstArgMember _ _) (wpAny_of_eq (a := Value.none) (by first | rfl | (simp only [firstArgMember]; rfl)) ?_)
  refine wpAny_newObj_type ?_ (by size_fits)
  have g1 : (s.heap.update it (Obj.mapFields (·.setIfInBounds 0 Value.none))).get? x1 = some oX := (Heap.get?_update_other _ _ (Ne.symm hne)).trans gX
  have sb : ∀ f : Obj → Obj, Heap.ExtBut it s.heap (s.heap.update it f) := fun f => (Heap.SameBut.update ..).extBut
  refine raiseNew_hot ⟨hh, oX, vX, Heap.get?_push_of_some _ (Heap.get?_push_of_some _ ((Heap.get?_update_other _ _ (Ne.symm hne)).trans gX)), dX, cX⟩ (Nat.ne_of_lt (Heap.lt_size (Heap.get?_push_of_some _ ((Heap.get?_update_other _ _ (Ne.symm hne)).trans gX)))) (Heap.get?_push_size _ rfl) rfl
    (by first | (simp; done) | (simp; omega) | (simp only [Array.size_append]; simp; omega)) ?_
  refine wpAny_bind (wpAny_isInstance (T := "StopIteration") (b := true) ⟨_, Heap.get?_update_self _ (Heap.get?_push_size _ rfl) rfl, rfl⟩ isSubtype_stop ?_)
  refine wpAny_pure (hQ _ fun b o hb e => ?_)
  have e1 := sb (Obj.mapFields (·.setIfInBounds 0 Value.none)) b o hb e
  rw [Heap.get?_update_other _ _ (Nat.ne_of_gt (Heap.lt_size (Heap.get?_push_of_some _ (sb _ b o hb e))))]
  exact Heap.get?_push_of_some _ (Heap.get?_push_of_some _ (sb _ b o hb e))
end
/-! ### sum -/
/-- the object's context is None -/
def Cn (x1 : Addr) (h : Heap) : Prop := ∃ (o : Obj) (vs : Array Value), h.get? x1 = some o ∧ o.data = .fields vs ∧ vs[2]? = some .none
theorem walks_listH {prog : Program} {w : World} {A : Around} {x1 l I : Addr} (hA : A.handled = some (.ref x1)) (hl : l ≠ I) (h1 : x1 ≠ I) (items : Array Value) :
    Walks prog w A I [I, l, x1] [I] items.size (fun i v => items[i]? = some v) (fun i h => (h.IsListIter I l i ∧ h.IsList l items) ∧ Cn x1 h) := by
  refine ⟨fun b hb => ?_, fun i h h' st k => ?_, fun i s Q E hi st q => ?_, fun s Q E st q => ?_, fun i s Q E st q => wpAny_pyIter_listiter st.1.1 q⟩
  · rw [List.mem_singleton.mp hb]; exact List.mem_cons_self
  · obtain ⟨⟨a, b⟩, o, vs, c, d⟩ := st
    exact ⟨⟨a.at fun o e => k I List.mem_cons_self o e, b.at fun o e => k l (List.mem_cons_of_mem _ List.mem_cons_self) o e⟩, o, vs, k x1 (List.mem_cons_of_mem _ (List.mem_cons_of_mem _ List.mem_cons_self)) o c, d⟩
  · refine wpAny_pyNext_list_item st.1.1 st.1.2 (x := items[i]) (by simp [hi]) fun h' st' sb => ?_
    refine q _ h' s.toks (by simp [hi]) ⟨⟨st', st.1.2.extBut sb.extBut hl⟩, ?_⟩ fun b o hb e => sb.extBut b o (fun z => hb (List.mem_singleton.mpr z)) e
    obtain ⟨o, vs, c, d⟩ := st.2
    exact ⟨o, vs, sb.extBut x1 o h1 c, d⟩
  · exact next_list_end_hot ⟨hA, st.2⟩ st.1.1 st.1.2 (by simp) h1 fun h' eb => q h' s.toks fun b o hb e => eb b o (fun z => hb (List.mem_singleton.mpr z)) e
theorem cr_sumH {X : Cx} (hc : HotC X) : CallR X (.builtin "sum") (rSum X.K) := by
  intro pins s σ H vs us Q I r h
  obtain ⟨a, ns, rfl, hs, q⟩ := h
  obtain ⟨its, rv, hl, _⟩ := I.list hs
  rw [Vals.ref1 r]
  obtain ⟨x1, hot⟩ := hc.at I
  have ll : s.heap.IsList a its.toArray := hl.isList
  have hlt : a < s.heap.objs.size := by obtain ⟨_, e, _⟩ := ll; exact Heap.lt_size e
  obtain ⟨hA, o1, v1, g1, d1⟩ := hot
  have h1lt : x1 < s.heap.objs.size := Heap.lt_size g1
  obtain ⟨xs, e⟩ := rv.ints.allInts.items
  have hn : numsOf (intItems xs).toList = ns := by rw [← e]; exact rv.ints.numsOf
  rw [nums_intItems] at hn
  rw [e] at ll
  refine call_sum_walkG (wpAny_pyIter_list ll ⟨s.heap.objs.size, _, _, _, _, _, numAt xs, rfl, walks_listH (A := X.A.in1) hA (Nat.ne_of_lt hlt) (Nat.ne_of_lt h1lt) (intItems xs), ⟨⟨⟨_, Heap.get?_push_size _ rfl, rfl, rfl⟩, ll.push _⟩, o1, v1, Heap.get?_push_of_some _ g1, d1⟩, fun b hb => ?_, fun i v hv => intItems_at hv, fun h' tk t' k => ?_⟩)
  · show b < (s.heap.push _).objs.size
    rw [Heap.size_push]
    rcases List.mem_cons.mp hb with rfl | hb
    · exact Nat.lt_succ_self _
    · rcases List.mem_cons.mp hb with rfl | hb
      · exact Nat.lt_succ_of_lt hlt
      · rw [List.mem_singleton.mp hb]
        exact Nat.lt_succ_of_lt h1lt
  · have hk : ∀ b o, s.heap.get? b = some o → h'.get? b = some o := fun b o eb => k b o (fun hb => absurd (Heap.lt_size eb) ((List.mem_singleton.mp hb) ▸ Nat.lt_irrefl _)) (Heap.get?_push_of_some _ eb)
    have es : preSum (numAt xs) (intItems xs).size = ns.sum := by rw [preSum_eq, List.take_of_length_le (by simp [intItems]), hn]
    rw [es]
    exact ⟨.int _, H, I.kept hk, ⟨_, rfl⟩, q⟩
/-! ### isinstance of the exception that is held -/
theorem call_isP {X : Cx} {a D : Addr} {oe : Obj} (C : ExcC X.K D) (hp : (a, oe) ∈ X.pn) (hz : Zc (.ref D) none oe) (hf : ∃ vs, oe.data = .fields vs) : CallR X (.builtin "isinstance") (rIsE X.K D a) := by
  intro pins s σ H xs us Q I r h
  obtain ⟨c, cv, b, rfl, hcv, e, q⟩ := h
  obtain ⟨u1, u2, rfl, r1, r2⟩ := vals2 r
  cases r1
  have ec := hcv _ r2
  subst ec
  have hget := (I.pin (a, oe) (List.mem_append_left _ hp)).1
  obtain ⟨vs, hv⟩ := hf
  have J : PySem.W.InstAt s.heap a oe D none := by
    obtain ⟨oc, od, oda, osl⟩ := oe
    obtain ⟨z1, z2⟩ := hz
    dsimp only at z1 z2 hv
    subst z1 z2 hv
    exact ⟨hget, rfl, rfl, trivial⟩
  exact PySem.W.kia_one (PySem.W.handS_kitx_exc C.hg C.hk C.hs C.hd C.ha C.hn C.ht C.hm) I.kIn J e (fun z => nomatch z) fun tk => ⟨.bl b, H, I.kept (t' := tk) fun _ _ z => z, rfl, q⟩
end PX

/-! a list comprehension over a list while an exception is handled -/
namespace PX
open PySem PySem.Spec PyProof.Rows L2 LamX HotX L2H
section
variable {X : Cx} {pins : List (Addr × Obj)} {σ : L2.St} {H : Hp} {s : Shared} {a it x1 : Addr} {i : Nat} {tg : Expr} {E : Value → Shared → Prop}
theorem list_itemH (I : Inv X pins σ H s) (hf : FpOk X pins H it) (st : s.heap.IsListIter it a i) (hg : (Itl X.K a).go i H) :
    wpAny (model X.prog X.w) X.A (pyNext (.ref it)) (fun r s1 => ∃ u, r = some u ∧ wpAny (model X.prog X.w) X.A (letOwnedTupleGo tg (.ref it) u) (fun _ s2 => ∃ x H', Inv X pins σ H' s2 ∧ RelV x u ∧ (Itl X.K a).yld i H x H' ∧ s2.heap.IsListIter it a (i + 1) ∧ H' it = none) E s1) E s := by
  obtain ⟨xs, x, hq, hx⟩ := hg
  obtain ⟨vals, rv, pl, _⟩ := I.list hq
  obtain ⟨u, hu, ru⟩ := rv.get hx
  obtain ⟨f0, f1, f2, f3, f4, f5⟩ := hf
  refine wpAny_pyNext_list_item st pl.isList (x := u) (by rw [← hu]; simp) fun h2 st2 but => ?_
  have J : Inv X pins σ H { s with heap := h2 } := I.turned (t' := s.toks) (fun b o hb e => Eq.trans (but.2 b hb) e) f0 f1 f3 f4 f5
  obtain ⟨o, eo, co, dd⟩ := id st2
  exact ⟨u, rfl, go_of (s := { s with heap := h2 }) eo co dd (by decide) ⟨x, H, J, ru, ⟨rfl, fun ys hy => (I.list_inj hy hq) ▸ hx⟩, st2, f0⟩⟩
theorem list_doneH (hot : HotAt X.A x1 s.heap) (hne : x1 ≠ it) (I : Inv X pins σ H s) (hf : FpOk X pins H it) (st : s.heap.IsListIter it a i) (hg : (Itl X.K a).stop i H) :
    wpAny (model X.prog X.w) X.A (pyNext (.ref it)) (fun r s1 => r = none ∧ Inv X pins σ H s1) E s := by
  obtain ⟨xs, hq, hx⟩ := hg
  obtain ⟨vals, rv, pl, _⟩ := I.list hq
  obtain ⟨f0, f1, f2, f3, f4, f5⟩ := hf
  have hl := rv.length
  exact next_list_end_hot hot st pl.isList (by simp; omega) hne fun h2 but => ⟨rfl, I.turned (t' := s.toks) (fun b o hb e => but b o hb e) f0 f1 f3 f4 f5⟩
end
section
variable {X : Cx}
theorem lc_hot {p : Addr × Obj} {elt tg src : Expr} {ifs : List Expr} {scope : Scope} {own : List (Str × Nat)} {pos : Pos} {tl : TE} {g : TG} {tt : TT} {te : TE} (hot : Hot1 X.A p) (hp : p ∈ X.pn) (hN : X.N.Nodup) (hl : PE X src tl) (ok : BlkOk X.N X.env.scope scope own)
    (hg : ∀ (s : Shared) (H : Hp) (C : Addr) (cl : List (Str × Addr)) (fp : List Addr), PG (X.blk s H scope (compEnvC scope cl C X.env) fp) tg g)
    (ht : ∀ (s : Shared) (H : Hp) (C : Addr) (cl : List (Str × Addr)) (fp : List Addr), PTs (X.blk s H scope (compEnvC scope cl C X.env) fp) ifs tt)
    (he : ∀ (s : Shared) (H : Hp) (C : Addr) (cl : List (Str × Addr)) (fp : List Addr), PE (X.blk s H scope (compEnvC scope cl C X.env) fp) elt te) (hs : ∀ x, foldedSetIterable src X.env x = pure x := by intro _; rfl) :
    PE X (.ListComp elt [⟨tg, src, ifs, 0⟩] scope pos) (tLc (iList X.K tl) g tt te (own.map (·.2))) := by
  refine ⟨fun pins s σ H Q I h => ?_⟩
  rw [eval_ListComp]
  have fr : ∀ y ∈ scope.names, y.2 = .free → ∃ c, X.env.cells.lookup y.1 = some c := fun y hy e => (ok.free y hy e).elim (fun k => I.ok.has _ (.inl k)) fun k => I.ok.has _ (.inr k)
  refine wpAny_comprehension_free rfl hs (closure_ok fr) ok.kind (fun y hy e => by rw [ok.uniq y hy, e]) (thn (hl.run pins s σ H _ I h) fun v s1 ⟨x, H2, I1, r1, l, ex, ⟨xs, hq⟩, q⟩ => ?_)
  subst ex
  cases r1
  obtain ⟨vals, rv, pl, _⟩ := I1.list hq
  refine wpAny_pyIter_list pl.isList ?_
  generalize hit : s1.heap.objs.size = it
  generalize hs2 : ({ s1 with heap := s1.heap.push { cls := .type "list_iterator", data := .fields #[.ref l, .int 0 0] } } : Shared) = s2
  have e2 : s2.heap = s1.heap.push { cls := .type "list_iterator", data := .fields #[.ref l, .int 0 0] } := by rw [← hs2]
  have I2 : Inv X pins σ H2 s2 := by
    rw [← hs2]
    exact I1.kept (t' := s1.toks) fun b o e => Heap.get?_push_of_some _ e
  have st2 : s2.heap.IsListIter it l 0 := by
    rw [e2, ← hit]
    exact ⟨_, Heap.get?_push_size _ rfl, rfl, rfl⟩
  have f2 : FpOk X pins H2 it := I1.fpOk (Nat.le_of_eq hit) (I1.hok.fresh (Nat.le_of_eq hit))
  have it2 : it < s2.heap.objs.size := by rw [e2, Heap.size_push, hit]; exact Nat.lt_succ_self _
  have xp : s2.heap.get? p.1 = some p.2 := (I2.pin p (List.mem_append_left _ hp)).1
  have xit : p.1 ≠ it := f2.2.2.2.2.2 p (List.mem_append_left _ hp)
  refine wpAny_newObj_type (newEnv_comp ?_) (by show 0 ≤ sizeLine; decide)
  generalize hD : s2.heap.objs.size = D
  have hDn : H2 D = none := I2.hok.fresh (Nat.le_of_eq hD)
  obtain ⟨W, ⟨m0, w0⟩, turn⟩ := q D hDn
  generalize hs3 : ({ s2 with heap := s2.heap.push { cls := .type "list", data := .seq ([] : List Value).toArray } } : Shared) = s3
  have e3 : s3.heap = s2.heap.push { cls := .type "list", data := .seq ([] : List Value).toArray } := by rw [← hs3]
  have I3 : Inv X pins σ (upd H2 D (.lst [])) s3 := by
    rw [← hs3]
    refine I2.laid (t' := s2.toks) (fun b o e => Heap.get?_push_of_some _ e) (Nat.le_of_eq hD) ⟨Nat.zero_le _, [], 0, .nil, ?_⟩
    rw [← hD]
    exact Heap.get?_push_size _ rfl
  have k3 : ∀ b o, s2.heap.get? b = some o → s3.heap.get? b = some o := fun b o e => by rw [e3]; exact Heap.get?_push_of_some _ e
  have Dit : it ≠ D := by rw [← hD]; exact Nat.ne_of_lt it2
  have f3 : FpOk X pins (upd H2 D (.lst [])) it := ⟨by rw [upd_ne Dit]; exact f2.1, f2.2⟩
  have it3 : it < s3.heap.objs.size := by rw [e3, Heap.size_push]; exact Nat.lt_succ_of_lt it2
  have one : ∀ {α : Prop}, (∀ b, b = it → α) → ∀ b ∈ [it], α := fun f b hb => f b (List.mem_singleton.mp hb)
  have I4 := block_start (fp := [it]) I3 ok hN fun b hb => by rw [List.mem_singleton.mp hb]; exact ⟨f3, it3⟩
  have st3 : s3.heap.IsListIter it l 0 := st2.at fun o e => k3 it o e
  have pg := hg s3 (upd H2 D (.lst [])) s3.heap.objs.size (cellsFrom (s3.heap.objs.size + 1) scope.names (cloFrom X.env.cells scope.names [])) [it]
  have pt := ht s3 (upd H2 D (.lst [])) s3.heap.objs.size (cellsFrom (s3.heap.objs.size + 1) scope.names (cloFrom X.env.cells scope.names [])) [it]
  have pe := he s3 (upd H2 D (.lst [])) s3.heap.objs.size (cellsFrom (s3.heap.objs.size + 1) scope.names (cloFrom X.env.cells scope.names [])) [it]
  show codeAny _ _ (.compStart (.ListComp elt [⟨tg, src, ifs, 0⟩] scope pos) 0 (.ref it) (.ref D) (compEnvC scope (cellsFrom (s3.heap.objs.size + 1) scope.names (cloFrom X.env.cells scope.names [])) s3.heap.objs.size X.env)) _ { s3 with heap := pushCells (s3.heap.push { cls := .type "dict", data := .dict #[] }) scope.names }
  -- the held exception stands through the block
  have P3 := I3.pin p (List.mem_append_left _ hp)
  generalize hce : compEnvC scope (cellsFrom (s3.heap.objs.size + 1) scope.names (cloFrom X.env.cells scope.names [])) s3.heap.objs.size X.env = ce at I4 pg pt pe ⊢
  have cL : ce.locals = s3.heap.objs.size := by subst hce; rfl
  generalize hH3 : upd H2 D (.lst []) = H3 at I3 I4 pg pt pe w0 f3 P3
  generalize hs4 : ({ s3 with heap := pushCells (s3.heap.push { cls := .type "dict", data := .dict #[] }) scope.names } : Shared) = s4 at I4 ⊢
  have st4 : s4.heap.IsListIter it l 0 := st3.at fun o e => by rw [← hs4]; exact pushCells_keeps _ _ _ _ (Heap.get?_push_of_some _ e)
  have stat : ∀ {σ' : L2.St} {H' : Hp} {s' : Shared}, Inv (X.blk s3 H3 scope ce [it]) [] σ' H' s' → H' it = none → FpOk (X.blk s3 H3 scope ce [it]) [] H' it := fun {σ' H' s'} I' hn =>
    ⟨hn, (I'.ok.exf it List.mem_cons_self).1, I'.ok.exfs it List.mem_cons_self, .inl List.mem_cons_self, fun x c e => (I'.ok.exf it List.mem_cons_self).2 x c e, fun q hq => nomatch (show q ∈ ([] : List (Addr × Obj)) ++ [] from hq)⟩
  have nfs : p.1 ∉ (X.blk s3 H3 scope ce [it]).fs := fun hm => (List.mem_cons.mp (I3.stkSub p.1 hm)).elim P3.2.2.1 P3.2.2.2.1
  have held : ∀ {σ' : L2.St} {H' : Hp} {s' : Shared}, Inv (X.blk s3 H3 scope ce [it]) [] σ' H' s' → HotAt X.A p.1 s'.heap := fun {σ' H' s'} I' => by
    obtain ⟨hA, vs, dv, cv⟩ := hot
    exact ⟨hA, p.2, vs, I'.base.keep p.1 p.2 P3.1 P3.2.1 nfs (fun hm => xit (List.mem_singleton.mp hm)), dv, cv⟩
  have loop : codeAny (model X.prog X.w) X.A (.compLoop (.ListComp elt [⟨tg, src, ifs, 0⟩] scope pos) 0 (.ref it) (.ref D) ce) (compPost (model X.prog X.w) X.A X.xe none (EP X pins σ Q) (.ref D) s3.heap.objs.size) s4 := by
    refine compLoop_any (fun n s' => ∃ i H', Inv (X.blk s3 H3 scope ce [it]) [] (wipe σ (own.map (·.2))) H' s' ∧ s'.heap.IsListIter it l i ∧ H' it = none ∧ W i n H') ?_ m0 ⟨0, H3, I4, st4, f3.1, w0⟩
    rintro n s5 ⟨i, H5, I5, st5, n5, w5⟩
    rcases turn i n H5 w5 with ⟨stop, qq⟩ | ⟨go, Nx, hNx, step⟩
    · refine thnF (list_doneH (X := X.blk s3 H3 scope ce [it]) (E := fun _ _ => False) (held I5) xit I5 (stat I5 n5) st5 stop) fun r s6 ⟨hr, I6⟩ => ?_
      subst hr
      have I7 : Inv X pins σ H5 s6 := I3.call' (ch := [it]) I6.os I6.base I6.hok I6.bare fun b hb => by rw [List.mem_singleton.mp hb]; exact ⟨f3.2.2.2.1, f3.2.1, f3.2.2.2.2.1, f3.2.2.2.2.2⟩
      have nC : H5 s3.heap.objs.size = none := cL ▸ I6.free
      obtain ⟨m, hn, _⟩ := I6.loc
      have hn : s6.heap.Ns s3.heap.objs.size m := cL ▸ hn
      obtain ⟨f0, f1, f2', f3', f4, f5⟩ : FpOk X pins H5 s3.heap.objs.size := I3.fpOk (Nat.le_refl _) nC
      exact ⟨m, hn, fun h2 but => ⟨.ref D, H5, I7.turned (t' := s6.toks) (fun b o hb e => (but.2 b hb).trans e) f0 f1 f3' f4 f5, rfl, qq⟩⟩
    · refine thnF (list_itemH (X := X.blk s3 H3 scope ce [it]) (tg := tg) (E := fun _ _ => False) I5 (stat I5 n5) st5 go) fun r s6 ⟨u, hr, h6⟩ => ?_
      subst hr
      refine thnF h6 fun _ s7 ⟨x, H7, I7, r7, y7, st7, n7⟩ => ?_
      have ob7 : ∀ b ∈ [it], ∃ o, s7.heap.get? b = some o ∧ ∀ v, o.data ≠ .cell v := (turn_list (P := X.prog) (w := X.w) (K := X.K) (tg := tg) l it).obj _ _ st7
      have I7' := I7.pinned (fp := [it]) (fun b hb => by rw [List.mem_singleton.mp hb]; exact stat I7 n7) ob7
      refine thnF (pg.run _ s7 _ H7 x u _ I7' r7 (step x H7 y7)) fun _ s8 ⟨σ8, H8, I8, hw8, q8⟩ => ?_
      refine thnF (pt.run _ s8 σ8 H8 _ I8 q8) fun b s9 ⟨H9, I9, q9⟩ => ?_
      have fin : ∀ {s' : Shared} {H' : Hp}, Inv (X.blk s3 H3 scope ce [it]) ([] ++ pinsAt [it] s7.heap) σ8 H' s' → Nx H' → ∃ m, m < n ∧ ∃ i H', Inv (X.blk s3 H3 scope ce [it]) [] (wipe σ (own.map (·.2))) H' s' ∧ s'.heap.IsListIter it l i ∧ H' it = none ∧ W i m H' := fun {s' H'} I' nx => by
        obtain ⟨m', hm, w'⟩ := hNx H' nx
        obtain ⟨o7, eo7, _⟩ := ob7 it List.mem_cons_self
        have z := I'.pin (it, o7) (List.mem_append_right _ (List.mem_append_right _ (mem_pinsAt List.mem_cons_self eo7)))
        refine ⟨m', hm, i + 1, H', (I'.unpinned (pins := [])).weak (by rw [← hw8, wipe_length]) (fun j v e => (wipe_some (by rw [hw8]; exact e)).1), st7.at fun o e => ?_, z.2.1, w'⟩
        rw [eo7] at e
        cases e
        exact z.1
      cases b with
      | false =>
        rw [if_neg (by decide)] at q9 ⊢
        exact fin I9 q9
      | true =>
        rw [if_pos rfl] at q9 ⊢
        refine thnF (pe.run _ s9 σ8 H9 _ I9 q9) fun z s10 ⟨yv, H10, I10, r10, acc, hD10, hz10, nx⟩ => ?_
        exact app_ok (X := X.blk s3 H3 scope ce [it]) I10 hD10 hz10 r10 fun s11 I11 => fin I11 nx
  exact codeAny_compStart_list loop (wpAny_pyIter_listiter st4 loop)
end
end PX

/-! a def that is called with the exception that is held -/
namespace PX
open PySem PySem.Spec PyProof.Rows L2 LamX HotX L2H
/-! ### rules of the pure layer where an exception is held -/
def itL : PyData → Res (List PyData)
  | .list ds => .ok ds
  | _ => .stuck
def idxOf (d : PyData) : List PyData → Option Nat
  | [] => none
  | x :: xs => if PyData.eqv x d = true then some 0 else (idxOf d xs).map (· + 1)
def indexD (ds : List PyData) (d : PyData) : Res PyData := if ds.all (fun x => decide (x.depth ≤ 40)) = true ∧ d.depth ≤ 40 then (match idxOf d ds with
    | some j => .ok (.int ((j : Nat) : Int))
    | none => .stuck) else .stuck
theorem idxOf_some {d : PyData} : ∀ {ds : List PyData} {j : Nat}, idxOf d ds = some j → ∃ z, ds[j]? = some z ∧ PyData.eqv z d = true ∧ ∀ (m : Nat) (z' : PyData), m < j → ds[m]? = some z' → PyData.eqv z' d = false
  | [], _, h => by cases h
  | x :: xs, j, h => by
    unfold idxOf at h
    split at h
    · rename_i e
      cases h
      exact ⟨x, rfl, e, fun m z' hm => absurd hm (Nat.not_lt_zero m)⟩
    · rename_i e
      cases q : idxOf d xs with
      | none => rw [q] at h; cases h
      | some k =>
        rw [q] at h
        cases h
        obtain ⟨z, h1, h2, h3⟩ := idxOf_some q
        refine ⟨z, h1, h2, fun m z' hm hz => ?_⟩
        cases m with
        | zero =>
          cases hz
          simpa using e
        | succ m => exact h3 m z' (Nat.lt_of_succ_lt_succ hm) hz
theorem depthAll_le {n : Nat} : ∀ {ds : List PyData}, ds.all (fun x => decide (x.depth ≤ n)) = true → PyData.depthAll ds ≤ n
  | [], _ => Nat.zero_le _
  | d :: ds, h => by
    rw [List.all_cons, Bool.and_eq_true] at h
    have h1 := of_decide_eq_true h.1
    have h2 := depthAll_le h.2
    show max d.depth (PyData.depthAll ds) ≤ n
    omega
section
variable {X : Cx} {T : List (Addr × Str)} {E : XK} {a b e tg src : Expr} {fa fb : Rho → Res PyData} {p pos : Pos}
theorem v_lcH {q : Addr × Obj} {elt : Expr} {ifs : List Expr} {scope : Scope} {own : List (Str × Nat)} {is : List Nat} {g : PyData → Res (List PyData)} {ct : Rho → Res Bool} {fe : Rho → Res PyData}
    (hot : Hot1 X.A q) (hp : q ∈ X.pn) (hN : X.N.Nodup) (ha : VE X T E src fa) (ok : BlkOk X.N X.env.scope scope own) (hsub : ∀ i ∈ is, i ∈ own.map (·.2))
    (hg : ∀ (s : Shared) (H : Hp) (C : Addr) (cl : List (Str × Addr)) (fp : List Addr), VG (X.blk s H scope (compEnvC scope cl C X.env) fp) tg is g)
    (ht : ∀ (s : Shared) (H : Hp) (C : Addr) (cl : List (Str × Addr)) (fp : List Addr), PTs (X.blk s H scope (compEnvC scope cl C X.env) fp) ifs (tT X.K T L2.E0 ct))
    (he : ∀ (s : Shared) (H : Hp) (C : Addr) (cl : List (Str × Addr)) (fp : List Addr), VE (X.blk s H scope (compEnvC scope cl C X.env) fp) T L2.E0 elt fe) (hs : ∀ x, foldedSetIterable src X.env x = pure x := by intro _; rfl) :
    VE X T E (.ListComp elt [⟨tg, src, ifs, 0⟩] scope pos) (compD (fun ρ => (fa ρ).bind itL) g is (own.map (·.2)) ct fe) :=
  PE.rd (PE.fz (lc_hot hot hp hN ha ok (fun s H C cl fp => (hg s H C cl fp).pg) ht (te := tE X.K T L2.E0 fe) he hs)) fun σ H Q h => by
    have h2 := comp_of (K := X.K) hsub σ H Q h
    obtain ⟨ρ, S, h3⟩ := h2
    refine ⟨ρ, S, ?_⟩
    dsimp only at h3
    cases ef : fa ρ with
    | stuck =>
      rw [ef] at h3
      exact h3.elim
    | exc c => rw [ef] at h3; exact h3
    | ok d =>
      rw [ef] at h3
      cases d with
      | list ds =>
        intro v H1 u r
        cases r with
        | lst s r z => exact ⟨_, rfl, ⟨_, s.l⟩, h3 _ _ u (iter_list s r z)⟩
      | _ => exact h3.elim
theorem v_index {apos : Pos} (hu : X.A.units + 65 < cLine) (ha : VE X T E a fa) (hb : VE X T E b fb) (na : starEach [b] X.env = (false, eval b X.env) :: starEach [] X.env := by rfl)
    (hbm : ∀ (to : TE) (t : TA), PE X a to → PA X [b] t → PE X (.Call (.Attribute a "index" apos) [b] [] pos) (tBM X.K "list" (rIndexD X.K) to t) := by
      intro to t ho ha; exact pe_bm PySem.F.plainAttrs_list PySem.F.slot_list_index PySem.F.type_list_index (mt_indexD (by assumption)) ho ha) :
    VE X T E (.Call (.Attribute a "index" apos) [b] [] pos) (fun ρ => ((fa ρ).bind itL).bind fun ds => (fb ρ).bind fun d' => indexD ds d') :=
  PE.rd (hbm _ _ ha (pa_cons hb pa_nil na)) fun σ H Q ⟨ρ, S, h⟩ => ⟨ρ, S, by
    have h : Post X.K T E (Rp X.K) (((fa ρ).bind itL).bind fun ds => (fb ρ).bind fun d' => indexD ds d') H Q := h
    cases ef : fa ρ with
    | stuck => rw [ef] at h; exact h.elim
    | exc c => rw [ef] at h; exact h
    | ok d =>
      rw [ef] at h
      intro v H1 u rx
      cases d with
      | list ds =>
        have h : Post X.K T E (Rp X.K) ((fb ρ).bind fun d' => indexD ds d') H Q := h
        cases rx with
        | lst s r z =>
          refine ⟨.inl ⟨rfl, _, s.l⟩, ρ, S.up u, (Post.bind (Post.up h u)).imp fun y H2 u2 ⟨d', ry, _, h3⟩ => ?_⟩
          unfold indexD at h3
          split at h3
          · rename_i hd
            split at h3
            · rename_i j ej
              obtain ⟨z0, h1, h2, h4⟩ := idxOf_some ej
              obtain ⟨r1, r2⟩ := (r.up u2).dp
              obtain ⟨y1, y2⟩ := ry.dp
              have dl := depthAll_le hd.1
              refine ⟨_, y, d', ds, j, z0, rfl, rfl, .lst (s.evo u2.evo).l r1, y1, ?_, ?_, h1, h2, h4, h3 _ _ (Up.refl H2) (.int _)⟩
              · show (PyData.canLay0 (.list ds) && decide (PyData.depth (.list ds) ≤ 64)) = true
                rw [Bool.and_eq_true]
                exact ⟨r2, decide_eq_true (by simp only [PyData.depth]; omega)⟩
              · show (PyData.canLay0 d' && decide (d'.depth ≤ 64)) = true
                rw [Bool.and_eq_true]
                exact ⟨y2, decide_eq_true (by omega)⟩
            · exact h3.elim
          · exact h3.elim
      | _ => exact h.elim⟩
/-- isinstance(e, C), slot i the exception that is held -/
def rfR {α : Type} (i : Nat) (a : Addr) (r : Res α) (ρ : Rho) : Res α := match ρ[i]? with
  | some (some (.rf b)) => if b = a then r else .stuck
  | _ => .stuck
theorem v_isE {i : Nat} {y c : Str} {ar D : Addr} {oe : Obj} {vc : V} {cv : Value} {bb : Bool} {p1 p2 : Pos} (C : ExcC X.K D) (hp : (ar, oe) ∈ X.pn) (hz : Zc (.ref D) none oe) (hf : ∃ vs, oe.data = .fields vs) (hg : Gl X "isinstance") (hm : X.mg "isinstance" = none)
    (hc : PE X (.Name c p2) (tC vc)) (hcv : ∀ u, RelV vc u → u = cv) (hb : PySem.W.kitOne X.K (.ref D) cv = some bb) (hi : X.N[i]? = some y := by rfl) (hv : Vis X.env.scope y := by first | exact Or.inl rfl | exact Or.inr (Or.inl rfl) | exact Or.inr (Or.inr rfl)) (hd : (y == ("__debug__" : Str)) = false := by decide)
    (hcd : (y == ("__classdict__" : Str)) = false := by decide) (na : starEach [.Name y p1, .Name c p2] X.env = (false, eval (.Name y p1) X.env) :: starEach [.Name c p2] X.env := by rfl) (nb : starEach [.Name c p2] X.env = (false, eval (.Name c p2) X.env) :: starEach [] X.env := by rfl)
    (hpl : (backTo pos (starEach [.Name c p2] X.env)).any (·.1) = false := by rfl) :
    VE X T E (.Call (.Name "isinstance" p) [.Name y p1, .Name c p2] [] pos) (rfR i ar (.ok (.bool bb))) :=
  PE.rd (pe_callB (call_isP C hp hz hf) hg hm (by decide +kernel) (pa_cons (pe_var hi hv hd hcd) (pa_cons hc pa_nil nb) na) (he := na) (hpl := hpl)) fun σ H Q ⟨ρ, S, h⟩ => by
    unfold rfR at h
    split at h
    · rename_i b' e
      split at h
      · rename_i eb
        subst eb
        exact ⟨.ref b', S.rf i b' e, vc, cv, bb, rfl, hcv, hb, h _ _ (Up.refl H) (.bl _)⟩
      · exact h.elim
    · exact h.elim
end
end PX

/-! what is told of a deed -/
namespace PX
open PySem PySem.Spec PyProof.Rows L2 LamX HotX L2H
/-! ### a def called while p is handled, its promise told of p -/
structure FnW (P : Program) (w : World) (K : PySem.W.Frag) (mg : Str → Option Value) (base : Heap) (k : Nat) (f : Addr) (fd : FuncData) (ps : List Str) (sp : Addr × Obj → Sp) : Prop where
  len : ∀ p vs H Q E, sp p vs H Q E → vs.length = ps.length
  run : ∀ (A : Around) (outer : List Env) (s : Shared) (H : Hp) (args : Args) (us : List Value) (vs : List V) (Q : VK) (E : XK) (p : Addr × Obj), RoomH k A → Hot1 A p → PinOk outer H s p → Env0 P w K mg base A outer s H → BindsTo s fd args (ps.zip us) → Vals vs us → sp p vs H Q E →
    codeAny (model P w) A (.call (.ref f) args) (CR (L2N.CX P w) outer P w H s Q E) s
section
variable {P : Program} {w : World} {K : PySem.W.Frag} {mg : Str → Option Value} {base : Heap}
theorem fn_w {x qual : Str} {params : Arguments} {body : List Stmt} {scope : Scope} {f : Addr} {fd : FuncData} {N ps : List Str} {k : Nat} {sp : Addr × Obj → Sp} (Fd : FunD K x qual params body scope [] [] f fd) (S : FnScope N ps scope) (len : ∀ p vs H Q E, sp p vs H Q E → vs.length = ps.length)
    (hb : ∀ (cdv : Value) (A : Around) (outer : List Env) (s : Shared) (H : Hp) (vs : List V) (Q : VK) (E : XK) (p : Addr × Obj), Hot1 A p → RoomH k (A.deeper (envOfC qual scope s.heap.objs.size f cdv)) → sp p vs H Q E →
      ∃ t, PSs (cxH (L2N.CX P w) P w K mg base N qual scope f cdv A outer s H E p) body t ∧ t { nx := fun _ H' => Q .non H', rt := Q } (L2.start N vs) H) : FnW P w K mg base (k + 1) f fd ps sp := by
  obtain ⟨oc, od, dV, kV, doc, pm, an, cdv, ct, osl, rfl, lk, hcd, _, _⟩ := Fd.ex
  refine ⟨len, fun A outer s H args us vs Q E p room hot pinned e0 bound rv promise => ?_⟩
  have kin : K.In s.heap := e0.mod.kin.keeps fun b o e => (e0.bs b o e).1
  have nol : s.heap.NoLimit := e0.mod.nolimit.keeps fun b o e => (e0.bs b o e).1
  refine codeAny_call_function room.depth (kin _ _ lk) rfl S.co S.gen rfl (PySem.W.codeRec_of kin hcd) (bound _ _ _ _ (wpAny_newFunctionEnv_cells S.kind (fun ⟨n, v⟩ hy => ?_) fun env he s1 call => ?_))
  · exact (S.par n (List.of_mem_zip hy).1).elim .inl fun z => .inr ⟨z, PySem.W.cellsFrom_some _ _ _ (.inl z)⟩
  · subst he
    refine ⟨nol.keeps call.toInCall.keep, codeAny_func ?_⟩
    obtain ⟨t, ht, hq⟩ := hb cdv A outer s H vs Q E p hot (room.deeper _) promise
    have J := inv_startH (CX := L2N.CX P w) (E := E) S pinned e0 (len _ _ _ _ _ promise) rv call
    refine wpAny_mono (ht.run [] s1 (L2.start N vs) H _ J hq) (fun fl s2 hs => ?_) fun _ _ z => z
    cases fl with
    | ret u =>
      obtain ⟨v, σ', H', J', rv', q⟩ := hs
      exact ⟨v, H', J'.os, J'.bare, J'.base, J'.hok, rv', q⟩
    | next =>
      obtain ⟨σ', H', J', q⟩ := hs
      exact ⟨V.non, H', J'.os, J'.bare, J'.base, J'.hok, rfl, q⟩
    | brk => exact hs.elim fun _ z => z.elim fun _ z => z.2.elim
    | cont => exact hs.elim fun _ z => z.elim fun _ z => z.2.elim
end
theorem no_cx {P : Program} {w : World} {outer : List Env} {H : Hp} {s : Shared} {u : Value} {s' : Shared} (h : L2N.CX P w outer H s L2.E0 u s') : False := by
  obtain ⟨_, _, _, _, _, _, _, _, _, _, _, _, z⟩ := h
  exact z
theorem pe_callW {X : Cx} {k : Nat} {f : Addr} {fd : FuncData} {ps : List Str} {sp : Addr × Obj → Sp} {x : Str} {q pos : Pos} {e : Expr} {es : List Expr} {t : TA} {p : Addr × Obj} (F : FnW X.prog X.w X.K X.mg X.base k f fd ps sp) (hr : RoomH k X.A) (hot : Hot1 X.A p) (hp : p ∈ X.pn)
    (hg : Gl X x) (hm : X.mg x = some (.ref f)) (hk : PySem.W.keepIn X.K (.ref f) = true) (hb : Binds X.K fd ps []) (ha : PA X (e :: es) t) (hdb : (x == ("__debug__" : Str)) = false := by decide)
    (he : starEach (e :: es) X.env = (false, eval e X.env) :: starEach es X.env := by rfl) (hpl : (backTo pos (starEach es X.env)).any (·.1) = false := by rfl) :
    PE X (.Call (.Name x q) (e :: es) [] pos) (fun σ H Q => t σ H fun vs H1 => sp p vs H1 Q L2.E0) := by
  refine ⟨fun pins s σ H Q I h => wpAny_Call_Name_kw (ld_glob I hg hm (PySem.W.callWith_K (h₀ := X.base) I.ok.mod.kin hk (thn (ha.run pos pins s σ H _ I h) fun us s1 ⟨vs, H1, I1, rv, q1⟩ => ⟨I1.kIn, ?_⟩) he hpl) hdb)⟩
  have hl : us.length = ps.length := by rw [← rv.length]; exact F.len _ _ _ _ _ q1
  have bd := hb s1 us I1.kIn (by rw [List.append_nil]; exact hl)
  rw [List.append_nil] at bd
  obtain ⟨z1, z2, z3, z4, z5⟩ := I1.pin p (List.mem_append_left _ hp)
  refine wpAny_call (codeAny_mono (F.run X.A X.stack s1 H1 ⟨us, []⟩ us vs Q L2.E0 p hr hot ⟨z1, z2, fun hm => (List.mem_cons.mp (I1.stkSub p.1 hm)).elim z3 z4, z5⟩ I1.env0 bd rv q1) fun r s2 hq => ?_)
  cases r with
  | error u => exact (no_cx hq).elim
  | ok fl =>
    cases fl with
    | ret u => exact I1.after hq
    | _ => exact hq.elim
/-! ### the deed's own context -/
def lamN (X : Cx) (A : Around) (outer : List Env) (s : Shared) (H : Hp) (E : XK) (scope : Scope) (f c' : Addr) : Cx :=
  (lamCx X A outer s H E scope f c').tr [] fun e s' => wpAny (model X.prog X.w) (A.deeper (lamEnv X scope s.heap.objs.size f c')) (leaving (lamEnv X scope s.heap.objs.size f c') e) (fun _ s'' => L2N.CX X.prog X.w outer H s E e s'') (fun e' s'' => L2N.CX X.prog X.w outer H s E e' s'') s'
theorem lamN_tk {X : Cx} {A : Around} {outer : List Env} {s : Shared} {H : Hp} {E : XK} {scope : Scope} {f c' : Addr} : L2N.Takes (lamN X A outer s H E scope f c') (fun cls d _ H => E cls d H) := L2N.takes_of rfl rfl rfl (by rfl)
theorem lamN_b {X : Cx} {A : Around} {outer : List Env} {s : Shared} {H : Hp} {E : XK} {scope : Scope} {f c' : Addr} {k : Nat} (hr : Room k (A.deeper (lamEnv X scope s.heap.objs.size f c'))) : BCx (lamN X A outer s H E scope f c') E k :=
  ⟨rfl, passes_of (by rfl), lamN_tk, L2N.passes_call lamN_tk fun _ _ _ _ h => h, hr, hr.units⟩
/-- the deed is done: a call without arguments of what was handed in -/
theorem act_px {X : Cx} {pins : List (Addr × Obj)} {σ : L2.St} {H : Hp} {s : Shared} {CXg : CXT} {Eg E : XK} {Ng : List Str} {qg : Str} {sg : Scope} {g f c' : Addr} {cdg pm ctv : Value} {params : Arguments} {body : Expr} {scope : Scope} {k i : Nat} {a : Str} {pn : List (Addr × Obj)} {xe : Value → Shared → Prop} {W : WX} {tb : TE} {p1 p2 : Pos}
    (I : Inv X pins σ H s) (L : LamS X.env.scope scope) (there : s.heap.get? f = some (PySem.W.kla_obj "<lambda>" (X.env.qual ++ "<lambda>") params body scope (cloFrom X.env.cells scope.names []) pm c' ctv)) (fNew : H f = none) (fOut : f ∉ frs X.stack)
    (binds : bindArgs (PySem.W.kla_fn "<lambda>" (X.env.qual ++ "<lambda>") params body scope (cloFrom X.env.cells scope.names []) pm (.ref c') ctv) ⟨[], []⟩ = pure [])
    (tk : L2N.Takes ((cxOf CXg X.prog X.w X.K X.mg X.base Ng qg sg g cdg X.A X.stack s H Eg).tr pn xe) W) (hW : ∀ cls d σ' H', E cls d H' → W cls d σ' H') (room : Room (k + 1) (X.A.deeper (envOfC qg sg s.heap.objs.size g cdg)))
    (hb : ∀ (A : Around) (outer : List Env) (s : Shared) (H : Hp), Room k (A.deeper (lamEnv X scope s.heap.objs.size f c')) → PE (lamN X A outer s H E scope f c') body tb)
    (hN : Ng[i]? = some a) (hv : Vis sg a) (hd : (a == ("__debug__" : Str)) = false := by decide) (hcd : (a == ("__classdict__" : Str)) = false := by decide) :
    PE ((cxOf CXg X.prog X.w X.K X.mg X.base Ng qg sg g cdg X.A X.stack s H Eg).tr pn xe) (.Call (.Name a p1) [] [] p2)
      (fun σZ HZ Q => σZ[i]? = some (some (.ref f)) ∧ HZ c' = some (CodeO c' (X.env.qual ++ "<lambda>")) ∧ tb σ HZ Q) := by
  refine ⟨fun pinsZ sZ σZ HZ Q IZ ⟨at_, code, ht⟩ => wpAny_Call_Name_kw (thn ((pe_var (pos := p1) (i := i) hN hv hd hcd).run pinsZ sZ σZ HZ (fun v H1 => v = .ref f ∧ H1 = HZ) IZ ⟨.ref f, at_, rfl, rfl⟩) fun u s1 ⟨v, H1, I1, r1, ev, eH⟩ => ?_)⟩
  subst ev eH
  cases r1
  have fat : s1.heap.get? f = some (PySem.W.kla_obj "<lambda>" (X.env.qual ++ "<lambda>") params body scope (cloFrom X.env.cells scope.names []) pm c' ctv) := I1.base.keep f _ there fNew fOut fun z => nomatch (show f ∈ ([] : List Addr) from z)
  refine PySem.W.callWith_F0 ⟨_, _, _, _, fat⟩ (wpAny_call (codeAny_mono (R := CR (L2N.CX X.prog X.w) (envOfC qg sg s.heap.objs.size g cdg :: X.stack) X.prog X.w H1 s1 Q E) ?_ fun r s2 hq => ?_))
  · show codeAny (model X.prog X.w) (X.A.deeper (envOfC qg sg s.heap.objs.size g cdg)) (.call (.ref f) ⟨[], []⟩) _ s1
    obtain ⟨⟨oc, vs, t, hoc, hdc, hvc⟩, _, _⟩ := I1.hok c' _ code
    refine PySem.W.kla_callFunE room.depth fat rfl L.co L.gen rfl ⟨c', oc, vs, t, rfl, hoc, hdc, hvc⟩ ?_
    rw [binds]
    refine wpAny_pure (wpAny_newFunctionEnv (fun y hy => (L.own y hy).2) (fun y hy => nomatch hy) (fun h₁ hns but => ⟨I1.nolimit.fresh _ but, ?_⟩) L.kind)
    have kept : ∀ b o, s1.heap.get? b = some o → h₁.get? b = some o := fun b o e => but.extBut b o (Nat.ne_of_lt (Heap.lt_size e)) (Heap.get?_push_of_some _ e)
    have J0 := lam_start2 (f := f) (c' := c') (E := E) (tk := s1.toks) I L I1.env0 room.hd (show Un (frs X.stack) [] H H1 s.heap s1.heap from I1.base) hns kept
    have J : Inv (lamN X (X.A.deeper (envOfC qg sg s.heap.objs.size g cdg)) (envOfC qg sg s.heap.objs.size g cdg :: X.stack) s1 H1 E scope f c') [] σ H1 { s1 with heap := h₁, toks := s1.toks } := J0.toTry _
    refine PySem.W.kla_codeExpr (wpAny_mono ((hb _ _ s1 H1 (room.deeper _)).run [] _ _ H1 Q J ht) (fun v s2 ⟨v2, H2, J2, rv, q⟩ => ⟨v2, H2, J2.os, J2.bare, J2.base, J2.hok, rv, q⟩) fun _ _ z => z)
  · cases r with
    | error e => exact (L2N.passes_call tk hW) pinsZ σZ H1 s1 e s2 I1 hq
    | ok fl =>
      cases fl with
      | ret u => exact I1.after hq
      | _ => exact hq.elim
end PX

/-! what is told of a deed: the rule -/
namespace PX
open PySem PySem.Spec PyProof.Rows L2 LamX HotX L2H
/-- a deed's result, or the name of its exception's class -/
def toldQ (cs : List Str) (r : Res PyData) : Res PyData := match r with
  | .ok d => .ok d
  | .exc c => if c ∈ cs then .ok (.str c) else .stuck
  | .stuck => .stuck
/-- what the def promises that names an exception's class -/
def spW (K : PySem.W.Frag) (T : List (Addr × Str)) (cs : List Str) : Addr × Obj → Sp := fun p vs H Q _ => ∃ c, c ∈ cs ∧ vs = [.ref p.1] ∧ Zc (clsV K c) none p.2 ∧ (∃ us, p.2.data = .fields us) ∧ Tabs T H ∧ ∀ H', Up T H H' → Q (.str c) H'
def lamQ (d : He.DefD) : Str := (envOfC d.qual d.scope 0 0 .none).qual ++ "<lambda>"
/-- the text of told -/
structure ToldDef (K : PySem.W.Frag) (mg : Str → Option Value) : Prop where
  ex : ∃ (params : Arguments) (sg : Scope) (fd : FuncData) (p1 p2 p3 p4 p5 p6 p7 p8 p9 p10 : Pos),
    FunD K "_law_told" "_law_told" params [.Try [.Return (some (.Call (.Name "_law_deed" p1) [] [] p2)) p3] [.ExceptHandler (some (.Name "BeltError" p4)) (some "_law_e") [.Return (some (.Call (.Name "_law_word" p5) [.Name "_law_e" p6] [] p7)) p8] p9] [] [] p10] sg [] [] (He.ga K "_law_told") fd ∧
      FnScope ["_law_deed", "_law_e"] ["_law_deed"] sg ∧ Binds K fd ["_law_deed"] [] ∧ sg.names.lookup ("_law_deed" : Str) = some .local ∧ sg.names.lookup ("_law_e" : Str) = some .local ∧ sg.names.lookup ("BeltError" : Str) = some .globalImplicit ∧ sg.names.lookup ("_law_word" : Str) = some .globalImplicit ∧ sg.kind = .function
  gl : mg "_law_told" = some (.ref (He.ga K "_law_told"))
structure ToldOk (P : Program) (w : World) (K : PySem.W.Frag) (mg : Str → Option Value) (base : Heap) (T : List (Addr × Str)) (cs : List Str) (kw : Nat) (mk : List He.DefD) : Prop where
  word : ∃ fd, FnW P w K mg base kw (He.ga K "_law_word") fd ["_law_e"] (spW K T cs) ∧ Binds K fd ["_law_e"] []
  wkp : PySem.W.keepIn K (.ref (He.ga K "_law_word")) = true
  wgl : mg "_law_word" = some (.ref (He.ga K "_law_word"))
  told : ToldDef K mg
  bgl : mg "BeltError" = some (.ref (He.ga K "BeltError"))
  exm : ∀ c ∈ cs, PySem.W.exmOne K (clsV K c) (.ref (He.ga K "BeltError")) = some true
  str : ∀ c ∈ cs, PyData.strOk c = true ∧ c.length ≤ sizeLine
  tab : ∀ d ∈ mk, TabB base mg (He.codeOf K d.at_) (He.cT K d.at_).2
  inT : ∀ d ∈ mk, ((He.cT K d.at_).2, lamQ d) ∈ T
  un : ∀ d ∈ mk, ∀ p ∈ T, p.1 = (He.cT K d.at_).2 → p.2 = lamQ d
section
variable {X : Cx} {T : List (Addr × Str)} {E : XK}
theorem v_told {cs : List Str} {kw k : Nat} {mk : List He.DefD} {d : He.DefD} {params : Arguments} {body : Expr} {scope : Scope} {p lpos pos : Pos} {fb : Rho → Res PyData} (O : ToldOk X.prog X.w X.K X.mg X.base T cs kw mk) (hd : d ∈ mk) (hcode : X.env.code = .ref (He.codeOf X.K d.at_)) (hr : Room (k + 2) X.A) (hk : kw ≤ k + 1)
    (L : LamS X.env.scope scope) (hb : ∀ (A : Around) (outer : List Env) (s : Shared) (H : Hp) (E : XK) (f c' : Addr), BCx (lamN X A outer s H E scope f c') E k → VE (lamN X A outer s H E scope f c') T E body fb)
    (hg : Gl X "_law_told") (hq : X.env.qual ++ "<lambda>" = lamQ d := by rfl) (hdef : defaultsOf params X.env = ([], []) := by rfl)
    (hbind : ∀ (q : Str) (cl : List (Str × Addr)) (pm cv ctv : Value), bindArgs (PySem.W.kla_fn "<lambda>" q params body scope cl pm cv ctv) ⟨[], []⟩ = pure [] := by intros; rfl) :
    VE X T E (.Call (.Name "_law_told" p) [.Lambda params body scope lpos] [] pos) (fun ρ => toldQ cs (fb ρ)) := by
  refine ⟨fun pins s σ H Q I h => ?_⟩
  obtain ⟨ρ, S, h⟩ := h
  have h : Post X.K T E (Rp X.K) (toldQ cs (fb ρ)) H Q := h
  obtain ⟨pg, sg, fd, p1, p2, p3, p4, p5, p6, p7, p8, p9, p10, Fd, Sg, bd, g1, g2, g3, g4, g5⟩ := O.told.ex
  obtain ⟨wfd, W, wb⟩ := O.word
  obtain ⟨oc, od, dV, kV, doc, pm, an, cdv, ct, osl, efd, lk, hcd, _⟩ := code_of Fd
  subst efd
  refine wpAny_Call_Name_kw (ld_glob I hg O.told.gl (PySem.W.callWith_K (h₀ := X.base) I.ok.mod.kin Fd.kp (show wpAny _ _ (spliced ((false, eval (.Lambda params body scope lpos) X.env) :: backTo pos (starEach [] X.env))) _ _ s from ?_) (by rfl) (by rfl)) (by decide))
  refine Calls.spliced_cons (lam_make2 I (O.tab d hd) hcode (by rw [hq]; exact O.inT d hd) (fun q hm e => by rw [hq]; exact O.un d hd q hm e) S.tabs hdef (L.has I.ok) fun f c' pm' ctv H1 s' I1 eN T1 hf hfn hfr hco => Calls.spliced_nil ⟨I1.kIn, ?_⟩)
  have u1 : Up T H H1 := ⟨eN, fun _ => T1⟩
  refine wpAny_call (codeAny_mono (R := CR (L2N.CX X.prog X.w) X.stack X.prog X.w H1 s' Q L2.E0) (run_ofS (N := ["_law_deed", "_law_e"]) (ps := ["_law_deed"]) (us := [.ref f]) (vs := [.ref f]) lk hcd Sg hr I1.env0 (bd s' [.ref f] I1.kIn rfl) (.cons rfl .nil) rfl fun hr' => ?_) fun r s2 hq => ?_)
  · have tkZ : L2N.Takes (cxOf (L2N.CX X.prog X.w) X.prog X.w X.K X.mg X.base ["_law_deed", "_law_e"] "_law_told" sg (He.ga X.K "_law_told") cdv X.A X.stack s' H1 L2.E0) (fun cls d _ H => L2.E0 cls d H) := L2N.takes_of rfl rfl rfl (by rfl)
    refine ⟨_, pss_one (L2N.ps_try_as (X := cxOf (L2N.CX X.prog X.w) X.prog X.w X.K X.mg X.base ["_law_deed", "_law_e"] "_law_told" sg (He.ga X.K "_law_told") cdv X.A X.stack s' H1 L2.E0) (i := 1) (c := .ref (He.ga X.K "BeltError")) (n := "_law_e")
      (tb := fun W D σZ HZ => ∃ Ech : XK, (∀ cls d σ' H', Ech cls d H' → W cls d σ' H') ∧ σZ[0]? = some (some (.ref f)) ∧ HZ c' = some (CodeO c' (X.env.qual ++ "<lambda>")) ∧ tE X.K T Ech fb σ HZ D.rt)
      (ts := fun a cls d D σ H => ∃ c σ0, cls = clsV X.K c ∧ d = none ∧ c ∈ cs ∧ σ = List.set σ0 1 (some (.ref a)) ∧ Tabs T H ∧ ∀ H', Up T H H' → D.rt (.str c) H')
      rfl rfl Sg.nd rfl ?_ ⟨g3, by decide, .inl O.bgl⟩ tkZ (fun W pn xe tk own => ?_) fun a oe cls dd pn hz hfl => ?_), ?_⟩
    · show (envOfC "_law_told" sg s'.heap.objs.size (He.ga X.K "_law_told") cdv).kindOf "_law_e" = some .local
      exact g2
    · refine ⟨fun pinsZ sZ σZ HZ D IZ ⟨Ech, hW, h1, h2, h3⟩ => ?_⟩
      have pa := act_px (i := 0) (k := k) (p1 := p1) (p2 := p2) (E := Ech) (tb := tE X.K T Ech fb) I1 L hf hfn hfr (hbind _ _ _ _ _) tk hW hr' (fun A outer s H hr2 => hb A outer s H Ech f c' (lamN_b hr2)) rfl (.inl g1)
      exact (pss_one (ps_ret (pos := p3) pa)).run pinsZ sZ σZ HZ D IZ ⟨h1, h2, h3⟩
    · refine ⟨fun pinsZ sZ σZ HZ D IZ ⟨c, σ0, e1, e2, hc, e3, t3, q3⟩ => ?_⟩
      subst e1 e2
      have l2 : σZ.length = 2 := IZ.len
      have at1 : σZ[1]? = some (some (.ref a)) := by
        rw [e3, List.length_set] at l2
        rw [e3]
        exact List.getElem?_set_self (by omega)
      have hot : Hot1 ((cxOf (L2N.CX X.prog X.w) X.prog X.w X.K X.mg X.base ["_law_deed", "_law_e"] "_law_told" sg (He.ga X.K "_law_told") cdv X.A X.stack s' H1 L2.E0).suite a ((a, oe) :: pn)).A (a, oe) := by
        obtain ⟨vs, ev⟩ := hfl
        exact ⟨rfl, vs, ev, hz.2.2 vs ev⟩
      have pw := pe_callW (X := (cxOf (L2N.CX X.prog X.w) X.prog X.w X.K X.mg X.base ["_law_deed", "_law_e"] "_law_told" sg (He.ga X.K "_law_told") cdv X.A X.stack s' H1 L2.E0).suite a ((a, oe) :: pn)) (pos := p7) (q := p5) (p := (a, oe)) W ⟨by have := hr'.dp; show _ + 3 * kw + 5 < _; have : X.A.depth + 1 + 3 * (k + 1) + 5 < recursionLimit := hr'.dp; show X.A.depth + 1 + 3 * kw + 5 < recursionLimit; omega, by
        have : X.A.units + 3 + 16 * (k + 1) + 200 < cLine := hr'.un
        show X.A.units + 3 + 16 * kw + 200 < cLine
        omega⟩ hot List.mem_cons_self g4 O.wgl O.wkp wb (pa_cons (pe_var (i := 1) (x := "_law_e") (pos := p6) rfl (.inl g2)) pa_nil)
      exact (pss_one (ps_ret (pos := p8) pw)).run pinsZ sZ σZ HZ D IZ ⟨.ref a, at1, c, hc, rfl, hz.zc, hfl, t3, q3⟩
    · refine ⟨fun cls d H' => ∃ c, cls = clsV X.K c ∧ d = none ∧ fb ρ = .exc c ∧ Up T H1 H', fun cls d σ' H' ⟨c, e1, e2, e3, u⟩ => ?_, rfl, hco, ρ, S.up u1, ?_⟩
      · subst e1 e2
        rw [e3] at h
        unfold toldQ at h
        dsimp only at h
        split at h
        · rename_i hc
          exact ⟨true, O.exm c hc, fun _ a _ => ⟨c, σ', rfl, rfl, hc, rfl, u.2 T1, fun H2 u2 => h _ _ (u1.trans (u.trans u2)) (.str c (O.str c hc).1 (O.str c hc).2)⟩, fun z => nomatch z⟩
        · exact h.elim
      · cases ef : fb ρ with
        | stuck => rw [ef] at h; exact h
        | exc c => exact fun H' u => ⟨c, rfl, rfl, rfl, u⟩
        | ok dd =>
          rw [ef] at h
          exact fun b H' u r => h b H' (u1.trans u) r
  · cases r with
    | error e => exact (no_cx hq).elim
    | ok fl =>
      cases fl with
      | ret u => exact I1.after hq
      | _ => exact hq.elim
end
end PX

/-! told: the def that names an exception's class; tables of the makers; the law's end -/
namespace PX
open PySem PySem.Spec PyProof.Rows L2 LamX HotX L2H
def wordRho (n : Nat) (a : Addr) : Rho := some (.rf a) :: List.replicate (n - 1) none
theorem word_fn {P : Program} {w : World} {K : PySem.W.Frag} {mg : Str → Option Value} {base : Heap} {x qual : Str} {params : Arguments} {body : List Stmt} {scope : Scope} {fd : FuncData} {N : List Str} {k : Nat} {T : List (Addr × Str)} {cs : List Str} {F : Addr → Str → Rho → Res Fl}
    (Fd : FunD K x qual params body scope [] [] (He.ga K "_law_word") fd) (S : FnScope N ["_law_e"] scope)
    (hb : ∀ (cdv : Value) (A : Around) (outer : List Env) (s : Shared) (H : Hp) (E : XK) (p : Addr × Obj) (cx : Str), cx ∈ cs → Hot1 (A.deeper (envOfC qual scope s.heap.objs.size (He.ga K "_law_word") cdv)) p → (A.deeper (envOfC qual scope s.heap.objs.size (He.ga K "_law_word") cdv)).units + 65 < cLine → Zc (clsV K cx) none p.2 → (∃ us, p.2.data = .fields us) →
      VSs (cxH (L2N.CX P w) P w K mg base N qual scope (He.ga K "_law_word") cdv A outer s H E p) T E H body (F p.1 cx))
    (hv : ∀ a, ∀ cx ∈ cs, F a cx (wordRho N.length a) = .ok (.rt (.str cx))) (hs : ∀ c ∈ cs, PyData.strOk c = true ∧ c.length ≤ sizeLine) : FnW P w K mg base (k + 1) (He.ga K "_law_word") fd ["_law_e"] (spW K T cs) := by
  have hN : 1 ≤ N.length := by
    have h1 := congrArg List.length S.pre
    rw [List.length_take] at h1
    simp only [List.length_cons, List.length_nil] at h1
    omega
  refine fn_w Fd S (fun p vs H Q E h => ?_) fun cdv A outer s H vs Q E p hot hr h => ?_
  · obtain ⟨c, _, rfl, _⟩ := h
    rfl
  · obtain ⟨cx, hc, rfl, hz, hf, t, q⟩ := h
    have no_ : ∀ (i : Nat) (z : Sl), (wordRho N.length p.1)[i]? = some (some z) → z = .rf p.1 ∨ z = .rf p.1 := fun i z h => by
      unfold wordRho at h
      cases i with
      | zero => cases h; exact .inl rfl
      | succ i =>
        rw [List.getElem?_cons_succ, List.getElem?_replicate] at h
        split at h <;> cases h
    refine ⟨_, hb cdv A outer s H E p cx hc ⟨hot.1, hot.2⟩ (by have := hr.un; omega) hz hf, wordRho N.length p.1, ⟨⟨?_, t, fun i d h => ?_, fun i a h => ?_, fun i ks h => (no_ i _ h).elim (fun z => by cases z) (fun z => by cases z)⟩, ExtN.refl H, fun i ds h => ?_, fun i kvs h => (no_ i _ h).elim (fun z => by cases z) (fun z => by cases z)⟩, ?_⟩
    · unfold L2.start wordRho
      simp only [List.length_append, List.length_map, List.length_cons, List.length_nil, List.length_replicate]
      omega
    · unfold wordRho at h
      cases i with
      | zero => cases h
      | succ i =>
        rw [List.getElem?_cons_succ, List.getElem?_replicate] at h
        split at h <;> cases h
    · unfold wordRho at h
      cases i with
      | zero => cases h; rfl
      | succ i =>
        rw [List.getElem?_cons_succ, List.getElem?_replicate] at h
        split at h <;> cases h
    · unfold wordRho at h
      cases i with
      | zero => cases h
      | succ i =>
        rw [List.getElem?_cons_succ, List.getElem?_replicate] at h
        split at h <;> cases h
    · rw [hv p.1 cx hc]
      exact fun v H' u1 u2 r => by
        cases r
        exact q H' ⟨u1, fun _ => u2⟩
/-! ### tables -/
def toldT (K : PySem.W.Frag) (mk : List He.DefD) : List (Addr × Str) := mk.map fun d => ((He.cT K d.at_).2, lamQ d)
theorem nodup_inj {α β : Type} {f : α → β} : ∀ {l : List α}, (l.map f).Nodup → ∀ a ∈ l, ∀ b ∈ l, f a = f b → a = b
  | [], _, a, ha, _, _, _ => nomatch ha
  | x :: l, h, a, ha, b, hb, e => by
    rw [List.map_cons, List.nodup_cons] at h
    rcases List.mem_cons.mp ha with e1 | ha
    · rcases List.mem_cons.mp hb with e2 | hb
      · rw [e1, e2]
      · exact absurd (List.mem_map.mpr ⟨b, hb, by rw [← e, e1]⟩) h.1
    · rcases List.mem_cons.mp hb with e2 | hb
      · exact absurd (List.mem_map.mpr ⟨a, ha, by rw [e, e2]⟩) h.1
      · exact nodup_inj h.2 a ha b hb e
theorem toldT_in {K : PySem.W.Frag} {mk : List He.DefD} : ∀ d ∈ mk, ((He.cT K d.at_).2, lamQ d) ∈ toldT K mk := fun d hd => List.mem_map.mpr ⟨d, hd, rfl⟩
theorem toldT_un {K : PySem.W.Frag} {mk : List He.DefD} (h : (mk.map fun d => (He.cT K d.at_).2).Nodup) : ∀ d ∈ mk, ∀ p ∈ toldT K mk, p.1 = (He.cT K d.at_).2 → p.2 = lamQ d := fun d hd p hp e => by
  obtain ⟨d', hd', rfl⟩ := List.mem_map.mp hp
  rw [nodup_inj h d' hd' d hd e]
theorem toldT_start {K : PySem.W.Frag} {mk : List He.DefD} {H : Hp} (h : ∀ d ∈ mk, H (He.cT K d.at_).2 = some (.tbl #[])) : Tabs (toldT K mk) H := fun p hp => by
  obtain ⟨d, hd, rfl⟩ := List.mem_map.mp hp
  exact TabS.nil (h d hd)
theorem rfR_z {α : Type} {a : Addr} {r : Res α} {ρ : Rho} : rfR 0 a r (some (.rf a) :: ρ) = r := by
  unfold rfR
  rw [List.getElem?_cons_zero]
  exact if_pos rfl
/-- a def of the top, without defaults -/
theorem fc_fun {fa : List He.Fa} {fn : List He.DefD} {K : PySem.W.Frag} {mg : Str → Option Value} {x : Str} {d : He.DefD} (c : Fc fa fn K mg) (i : Nat) (hi : fn[i]? = some d := by rfl) (hat : d.at_ = (x, none) := by rfl) (h1 : d.dfl = [] := by rfl) (h2 : d.kwd = [] := by rfl) :
    ∃ fd, FunD K d.name d.qual d.params d.body d.scope [] [] (He.ga K x) fd := by
  obtain ⟨fd, Fd⟩ := c.d.def_ i hi
  have e1 : d.dvs K = [] := by unfold He.DefD.dvs; rw [h1]; rfl
  have e2 : d.kws K = [] := by unfold He.DefD.kws; rw [h2]; rfl
  have e3 : He.fAd K d.at_ = He.ga K x := by rw [hat]; rfl
  rw [e1, e2, e3] at Fd
  exact ⟨fd, Fd⟩
end PX

/-! a tuple so many times; data of any depth in a tuple -/
namespace PX
open PySem PySem.Spec PyProof.Rows L2 LamX
/-! ### a datum in a tuple of data -/
def inDD (x : PyData) : PyData → Res PyData
  | .tuple ys => if x.canLay0 = true ∧ PyData.canLayAll0 ys = true ∧ x.depth ≤ 40 then .ok (.bool (ys.any fun y => PyData.eqv y x)) else .stuck
  | _ => .stuck
def rInT (K : PySem.W.Frag) : R2 := fun x y H Q => ∃ d ds, Rp K H x d ∧ Rp K H y (.tuple ds) ∧ d.canLay0 = true ∧ PyData.canLayAll0 ds = true ∧ d.depth ≤ 40 ∧ Q (.bl (ds.any fun z => PyData.eqv z d)) H
section
variable {X : Cx} {T : List (Addr × Str)} {E : XK}
theorem s_inT (hu : X.A.units + 64 < cLine) : OpR X (compareOp .In) (rInT X.K) := by
  intro pins s σ H x y v u Q I rx ry h
  obtain ⟨d, ds, hd, he, c1, c2, dp, q⟩ := h
  obtain ⟨as, r1⟩ := Dp.reads I d x v hd.dp.1 rx
  obtain ⟨bs, r2⟩ := Dp.reads I (.tuple ds) y u he.dp.1 ry
  exact SeqAt.in_tuple_reads r2 r1 c2 c1 (by omega) ⟨.bl _, H, I, rfl, q⟩
theorem n_inT : Serves0 X T E (rInT X.K) inDD := by
  intro x y d d' H Q rx ry h
  unfold inDD at h
  split at h
  · split at h
    · rename_i c
      exact ⟨d, _, rx, ry, c.1, c.2.1, c.2.2, h _ _ (Up.refl H) (.bl _)⟩
    · exact h.elim
  · exact h.elim
end
/-! ### a tuple so many times -/
theorem tuple_mulSame (l : Addr) (items : Array Value) (n : Nat) (dd : Option Addr) (sl : Array (Option Value)) (x : Int) (u : Tok) (c0 : (decide (x < -(2 ^ 63)) || decide (x ≥ 2 ^ 63)) = false) (c1 : (items.isEmpty || x == 1) = true) :
    Meets (Builtin.«tuple.__mul__» ⟨[.ref l, .int x u], []⟩) (fun _ R s => s.heap.get? l = some { cls := .type "tuple", dict := dd, data := .seq items n, slots := sl } ∧
      R (.ok (.ret (Value.ref l))) s) :=
  .of_wp fun prog w A R s h => by
    obtain ⟨hp, g, d, tk, os⟩ := s
    obtain ⟨hl, h⟩ := h
    have f1 := AutoSeq1.idx_int
    wp_walk using wpAny_loadPart' hl
    refine wpAny_ite_false (decide_eq_false (by rw [c0]; exact Bool.false_ne_true)) ?_
    wp_walk using wpAny_loadPart' hl
    exact ⟨_, rfl, h⟩
theorem tuple_mulNone (l : Addr) (items : Array Value) (n : Nat) (dd : Option Addr) (sl : Array (Option Value)) (x : Int) (u : Tok) (c0 : (decide (x < -(2 ^ 63)) || decide (x ≥ 2 ^ 63)) = false) (c1 : (items.isEmpty || x == 1) = false) (c2 : (decide (x ≤ 0) || items.isEmpty) = true) :
    Meets (Builtin.«tuple.__mul__» ⟨[.ref l, .int x u], []⟩) (fun _ R s => s.heap.get? l = some { cls := .type "tuple", dict := dd, data := .seq items n, slots := sl } ∧
      R (.ok (.ret (Value.ref s.heap.objs.size))) { s with heap := s.heap.push { cls := Value.type "tuple", data := Data.seq #[] }, toks := s.toks }) :=
  .of_wp fun prog w A R s h => by
    obtain ⟨hp, g, d, tk, os⟩ := s
    obtain ⟨hl, h⟩ := h
    have f1 := AutoSeq1.idx_int
    wp_walk using wpAny_loadPart' hl
    repeat (first
      | (refine wpAny_ite_false (decide_eq_false (by rw [c0]; exact Bool.false_ne_true)) ?_; wp_walk using wpAny_loadPart' hl)
      | (refine wpAny_ite_false (decide_eq_false (by rw [c1]; exact Bool.false_ne_true)) ?_; wp_walk using wpAny_loadPart' hl)
      | (refine wpAny_ite_true (decide_eq_true c2) ?_; wp_walk using wpAny_loadPart' hl))
    exact ⟨_, rfl, h⟩
def trepQ : PyData → PyData → Res PyData
  | .tuple ds, .int n => if ds.length ≤ 1000 ∧ -1000 ≤ n ∧ n ≤ 1000 then .ok (.tuple (repL ds n.toNat)) else .stuck
  | _, _ => .stuck
def rRepS (K : PySem.W.Frag) : R2 := fun x y H Q => ∃ l k xs, x = .ref l ∧ y = .int k ∧ SqT K H l xs ∧ (xs = [] ∨ k = 1) ∧ -1000 ≤ k ∧ k ≤ 1000 ∧ Q (.ref l) H
def rRepN (K : PySem.W.Frag) : R2 := fun x y H Q => ∃ l k xs, x = .ref l ∧ y = .int k ∧ SqT K H l xs ∧ xs ≠ [] ∧ k ≤ 0 ∧ -1000 ≤ k ∧ ∀ p, H p = none → Q (.ref p) (upd H p (.tup []))
section
variable {X : Cx} {T : List (Addr × Str)} {E : XK}
theorem c0_ok {k : Int} (h1 : -1000 ≤ k) (h2 : k ≤ 1000) : (decide (k < -(2 ^ 63)) || decide (k ≥ 2 ^ 63)) = false := by
  rw [decide_eq_false (by omega), decide_eq_false (by omega)] <;> rfl
theorem op_repS : OpR X (binaryOp .Mult) (rRepS X.K) := by
  intro pins s σ H x y v u Q I rx ry h
  obtain ⟨l, k, xs, rfl, rfl, hT, hc1, h1, h2, q⟩ := h
  cases rx
  obtain ⟨t, rfl⟩ := ry
  obtain ⟨its, r, ⟨⟨cls, dd, data, sl⟩, ho, hc, n, hd⟩, hs⟩ := I.tuple hT
  simp only at hc hd
  subst hc hd
  have hle : its.length = xs.length := r.length.symm
  have c1 : (its.toArray.isEmpty || k == 1) = true := by
    rcases hc1 with rfl | rfl
    · rw [List.eq_nil_of_length_eq_zero hle]
      rfl
    · rw [Bool.or_eq_true]
      exact .inr (beq_self_eq_true _)
  refine wpAny_binaryOp_repeat_ref (T := "tuple") (U := "int") (by decide) ⟨_, ho, rfl⟩ (fun s' => typeIs_int s' k t) noFill_tuple_mul F.fills_int_mul F.slot_int_rmul repeat_tuple F.slot_int_index.lookup
    (call_meets F.slot_int_rmul (typeIs_int s k t) F.entry_int_rmul (F.args_int_rmul_2 _ _) (int_rmul_tuple k t l its.toArray n dd sl)
      ⟨ho, rfl, ⟨_, ho, rfl⟩, call_meets F.slot_tuple_mul ⟨_, ho, rfl⟩ F.entry_tuple_mul (F.args_tuple_mul_2 _ _) (tuple_mulSame l its.toArray n dd sl k t (c0_ok h1 h2) c1) ⟨ho, ?_⟩⟩)
  exact ⟨.ref l, H, I, rfl, q⟩
theorem op_repN : OpR X (binaryOp .Mult) (rRepN X.K) := by
  intro pins s σ H x y v u Q I rx ry h
  obtain ⟨l, k, xs, rfl, rfl, hT, hne, h0, h1, q⟩ := h
  cases rx
  obtain ⟨t, rfl⟩ := ry
  obtain ⟨its, r, ⟨⟨cls, dd, data, sl⟩, ho, hc, n, hd⟩, hs⟩ := I.tuple hT
  simp only at hc hd
  subst hc hd
  have hle : its.length = xs.length := r.length.symm
  have hi : its.toArray.isEmpty = false := by
    cases its with
    | nil => exact absurd (List.eq_nil_of_length_eq_zero hle.symm) hne
    | cons a b => rfl
  have c1 : (its.toArray.isEmpty || k == 1) = false := by
    rw [hi, Bool.false_or]
    exact beq_eq_false_iff_ne.mpr (by omega)
  have c2 : (decide (k ≤ 0) || its.toArray.isEmpty) = true := by
    rw [decide_eq_true h0]
    rfl
  refine wpAny_binaryOp_repeat_ref (T := "tuple") (U := "int") (by decide) ⟨_, ho, rfl⟩ (fun s' => typeIs_int s' k t) noFill_tuple_mul F.fills_int_mul F.slot_int_rmul repeat_tuple F.slot_int_index.lookup
    (call_meets F.slot_int_rmul (typeIs_int s k t) F.entry_int_rmul (F.args_int_rmul_2 _ _) (int_rmul_tuple k t l its.toArray n dd sl)
      ⟨ho, rfl, ⟨_, ho, rfl⟩, call_meets F.slot_tuple_mul ⟨_, ho, rfl⟩ F.entry_tuple_mul (F.args_tuple_mul_2 _ _) (tuple_mulNone l its.toArray n dd sl k t (c0_ok h1 (by omega)) c1 c2) ⟨ho, ?_⟩⟩)
  refine ⟨.ref s.heap.objs.size, _, I.laid (t' := s.toks) (o := .tup []) (fun b ob q => Heap.get?_push_of_some _ q) (Nat.le_refl _) ?_, rfl, q _ (I.hok.fresh (Nat.le_refl _))⟩
  exact ⟨Nat.zero_le _, _, .nil, IsTup.new _ _⟩
theorem s_trep : OpR X (binaryOp .Mult) (fun x y H Q => rRepT X.K x y H Q ∨ rRepS X.K x y H Q ∨ rRepN X.K x y H Q) := OpR.or op_repT (OpR.or op_repS op_repN)
theorem n_trep : Serves0 X T E (fun x y H Q => rRepT X.K x y H Q ∨ rRepS X.K x y H Q ∨ rRepN X.K x y H Q) trepQ := by
  intro x y d d' H Q rx ry h
  unfold trepQ at h
  split at h
  · rename_i ds n
    split at h
    · rename_i c
      cases ry
      have rx0 := rx
      cases rx with
      | tup s r z =>
        have hl := r.len
        by_cases e1 : ds = [] ∨ n = 1
        · refine .inr (.inl ⟨_, n, _, rfl, rfl, s, ?_, c.2.1, c.2.2, ?_⟩)
          · rcases e1 with e1 | e1
            · rw [e1] at hl
              exact .inl (List.eq_nil_of_length_eq_zero hl)
            · exact .inr e1
          · have e2 : repL ds n.toNat = ds := by
              rcases e1 with rfl | rfl
              · generalize n.toNat = m
                induction m with
                | zero => rfl
                | succ m ih => exact ih
              · exact List.append_nil ds
            rw [e2] at h
            exact h _ _ (Up.refl H) rx0
        · have e3 : ds ≠ [] := fun h => e1 (.inl h)
          have e4 : n ≠ 1 := fun h => e1 (.inr h)
          by_cases e5 : n ≤ 0
          · refine .inr (.inr ⟨_, n, _, rfl, rfl, s, ?_, e5, c.2.1, fun p hp => ?_⟩)
            · intro e
              rw [e] at hl
              exact e3 (List.eq_nil_of_length_eq_zero hl.symm)
            · rw [Int.toNat_of_nonpos e5] at h
              exact h (.ref p) _ (Up.new hp) (.tup (.of upd_same) .nil (Nat.zero_le _))
          · refine .inl ⟨_, n, _, rfl, rfl, s, ?_, by omega, c.2.2, by omega, fun p hp => ?_⟩
            · intro e
              rw [e] at hl
              exact e3 (List.eq_nil_of_length_eq_zero hl.symm)
            · refine h (.ref p) _ (Up.new hp) (.tup (.of upd_same) ((r.up (Up.new (T := T) hp)).rep n.toNat) ?_)
              rw [repL_len, sizeLine_eq]
              have a1 : ds.length * n.toNat ≤ 1000 * 1000 := Nat.mul_le_mul (by omega) (by omega)
              omega
    · exact h.elim
  · exact h.elim
theorem v_trep {a b : Expr} {pos : Pos} {fa fb : Rho → Res PyData} (ha : VE X T E a fa) (hb : VE X T E b fb) : VE X T E (.BinOp a .Mult b pos) (fun ρ => (fa ρ).bind fun d => (fb ρ).bind fun d' => trepQ d d') := v_bin s_trep (Serves0.s n_trep) ha hb
end
end PX

/-! t[::-1] of tuples -/
namespace PX
open PySem PySem.Spec PyProof.Rows L2 LamX HT
section
variable {prog : Program} {w : World} {A : Around} {E : Value → Shared → Prop} {s : Shared}
theorem adjust_rev (n : Nat) : Builtin.Slice.sliceAdjust none none (-1) (n : Int) = ((n : Int) - 1, -1) := rfl
theorem places_rev (n : Nat) : Builtin.Slice.slicePlaces ((n : Int) - 1) (-1) (-1) = n := by
  unfold Builtin.Slice.slicePlaces
  rw [if_neg (by decide)]
  by_cases h : (n : Int) - 1 > -1
  · rw [if_pos h, show -(-1 : Int) = 1 by decide, Int.ediv_one]
    omega
  · rw [if_neg h]
    omega
theorem pick_rev (xs : Array Value) : ((List.range xs.size).filterMap fun (m : Nat) => xs[(((xs.size : Nat) : Int) - 1 + (m : Int) * (-1)).toNat]?).toArray = xs.toList.reverse.toArray := by
  have e : (List.range xs.size).filterMap (fun (m : Nat) => xs[(((xs.size : Nat) : Int) - 1 + (m : Int) * (-1)).toNat]?) = (((List.range xs.size).map fun k => xs.size - 1 - k).filterMap (xs[·]?)) := by
    rw [List.filterMap_map]
    congr 1
    funext m
    show xs[(((xs.size : Nat) : Int) - 1 + (m : Int) * (-1)).toNat]? = xs[xs.size - 1 - m]?
    rw [show (((xs.size : Nat) : Int) - 1 + (m : Int) * (-1)).toNat = xs.size - 1 - m by omega]
  rw [e, PySem.W.krv_range, List.filterMap_reverse, PySem.W.krv_all]
theorem sliceApplied_rev {sl : Addr} {vl vu vs : Value} {n : Nat} {Q : Int × Int × Nat → Shared → Prop} (hs : s.heap.IsSliceOf sl vl vu vs) (pl : IsPart vl none) (pu : IsPart vu none) (ps : IsPart vs (some (-1)))
    (h : Q ((n : Int) - 1, -1, n) s) : wpAny (model prog w) A (Builtin.Slice.sliceApplied (.ref sl) (pure (n : Int))) Q E s := by
  obtain ⟨os, hos, hcs, hds⟩ := id hs
  unfold Builtin.Slice.sliceApplied Builtin.Slice.sliceFields
  refine wpAny_bind (wpAny_bind (wpAny_field hos hds (x := vl) rfl (wpAny_bind (wpAny_field hos hds (x := vu) rfl (wpAny_bind (wpAny_field hos hds (x := vs) rfl (wpAny_pure ?_)))))))
  refine wpAny_bind (slicePart_ ps ?_)
  show wpAny _ _ (if ((-1 : Int) == 0) = true then _ else _) _ _ s
  rw [if_neg (by decide)]
  refine wpAny_bind (slicePart_ pl (wpAny_bind (slicePart_ pu (wpAny_bind (wpAny_pure ?_)))))
  show wpAny _ _ (match Builtin.Slice.sliceAdjust none none (-1) (n : Int) with | (lo, hi) => pure (lo, (-1 : Int), Builtin.Slice.slicePlaces lo hi (-1))) _ _ s
  rw [adjust_rev n]
  show wpAny _ _ (pure ((n : Int) - 1, (-1 : Int), Builtin.Slice.slicePlaces ((n : Int) - 1) (-1) (-1))) _ _ s
  rw [places_rev]
  exact wpAny_pure h
theorem getItem_tuple_rev {t sl : Addr} {items : Array Value} {vl vu vs : Value} {Q : Value → Shared → Prop} (ht : IsTup s.heap t items) (hs : s.heap.IsSliceOf sl vl vu vs) (pl : IsPart vl none) (pu : IsPart vu none) (ps : IsPart vs (some (-1)))
    (h : Q (.ref s.heap.objs.size) { s with heap := s.heap.push { cls := .type "tuple", data := .seq items.toList.reverse.toArray } })
    (hsz : items.size ≤ sizeLine) : wpAny (model prog w) A (getItem (.ref t) (.ref sl)) Q E s := by
  have htake : sizeOk (.seq items.toList.reverse.toArray) := by
    show items.toList.reverse.toArray.size ≤ sizeLine
    rw [List.size_toArray, List.length_reverse, Array.length_toList]
    exact hsz
  obtain ⟨os, hos, hcs, hds⟩ := id hs
  have hTs : s.TypeIs (.ref sl) "slice" := ⟨os, hos, hcs⟩
  unfold getItem
  try with_reducible refine wpAny_holding ?_
  first | refine wpAny_bind (wpAny_pure ?_) | skip
  refine wpAny_bind (wpAny_sequenceKey ht.typeIs (by decide) ?_)
  refine wpAny_bind (wpAny_callSpecial?_slot (name := Str.ofString "__getitem__") ht.typeIs PyProof.Rows.slot_tuple_getitem
    (wpAny_call_entry PyProof.Rows.slot_tuple_getitem ht.typeIs entry_tuple_getitem ?_ (args_tuple_getitem _ _)))
  show wpAny _ _ (Builtin.Tuple.tupleItemsOf (.ref t) >>= _) _ _ s
  refine wpAny_bind (tupleItemsOf_ ht ?_)
  refine wpAny_bind (wpAny_typeOf hTs ?_)
  rw [if_pos (by decide)]
  refine wpAny_bind (sliceApplied_rev hs pl pu ps ?_)
  have hno : ¬ ((((items.size : Nat) : Int) - 1 == 0 && (-1 : Int) == 1 && items.size == items.size) = true) := by
    intro q
    rw [Bool.and_eq_true, Bool.and_eq_true] at q
    exact absurd q.1.2 (by decide)
  show wpAny _ _ (if (((items.size : Nat) : Int) - 1 == 0 && (-1 : Int) == 1 && items.size == items.size) = true then _ else _) _ _ s
  rw [if_neg hno, pick_rev]
  first
    | exact wpAny_bind (m := Builtin.Tuple.tupleExact _) (wpAny_newObj_type (wpAny_pure ⟨_, rfl, wpAny_pure h⟩) htake)
    | exact wpAny_bind (m := Builtin.Tuple.tupleExact _) (wpAny_newObj_type (wpAny_bind (wpAny_pure (wpAny_pure ⟨_, rfl, wpAny_pure h⟩))) htake)
    | exact wpAny_bind (wpAny_bind (m := Builtin.Tuple.tupleExact _) (wpAny_newObj_type (wpAny_pure (wpAny_pure ⟨_, rfl, wpAny_pure h⟩)) htake))
    | exact wpAny_bind (wpAny_bind (m := Builtin.Tuple.tupleExact _) (wpAny_newObj_type (wpAny_pure ⟨_, rfl, wpAny_pure h⟩) htake))
end
section
variable {X : Cx} {T : List (Addr × Str)} {E : XK}
def tRevT (K : PySem.W.Frag) (te : TE) : TE := fun σ H Q => te σ H fun x H1 => ∃ a xs, x = .ref a ∧ SqT K H1 a xs ∧ ∀ p, H1 p = none → Q (.ref p) (upd H1 p (.tup xs.reverse))
theorem pe_revT {e : Expr} {te : TE} {k : Nat} {p1 p2 p3 pos : Pos} (he : PE X e te) : PE X (.Subscript e (.Slice none none (some (.UnaryOp .USub (.Constant (.int 1) k p1) p2)) p3) pos) (tRevT X.K te) := by
  refine ⟨fun pins s σ H Q I h => ?_⟩
  refine Subscript_ (thn (he.run pins s σ H _ I h) fun v s1 ⟨x, H1, I1, r1, q1⟩ => ?_)
  obtain ⟨a, xs, ex, hx, q⟩ := q1
  subst ex
  cases r1
  have hst : PO X (some (.UnaryOp .USub (.Constant (.int 1) k p1) p2)) (tPart (tUn (rU fun i => .int (-i)) (tC (.int 1)))) := po_some (pe_un un_neg pe_int)
  refine wpAny_Slice (thn (po_none.run pins s1 σ H1 (fun o H2 => o = none ∧ H2 = H1) I1 ⟨rfl, rfl⟩) fun vl s2 ⟨l, H2, I2, pl, el, e2⟩ => ?_)
  subst el e2
  refine thn (po_none.run pins s2 σ H2 (fun o H3 => o = none ∧ H3 = H2) I2 ⟨rfl, rfl⟩) fun vu s3 ⟨u, H3, I3, pu, eu, e3⟩ => ?_
  subst eu e3
  refine thn (hst.run pins s3 σ H3 (fun o H4 => o = some (-1) ∧ H4 = H3) I3 ⟨1, rfl, -1, rfl, rfl, rfl⟩) fun vs s4 ⟨o, H4, I4, ps, eo, e4⟩ => ?_
  subst eo e4
  have I5 : Inv X pins σ H4 { s4 with heap := s4.heap.push { cls := .type "slice", data := .fields #[vl, vu, vs] } } := I4.kept (t' := s4.toks) fun b ob q => Heap.get?_push_of_some _ q
  obtain ⟨its, r, ht, hz⟩ := I5.tuple hx
  have hlen := r.length
  show wpAny (model X.prog X.w) X.A (subscriptTail e (.Slice none none (some (.UnaryOp .USub (.Constant (.int 1) k p1) p2)) p3) (.ref a) (.ref s4.heap.objs.size)) (EP X pins σ Q) X.xe { s4 with heap := s4.heap.push { cls := .type "slice", data := .fields #[vl, vu, vs] } }
  refine tail_any (ops := [.ref a, .ref s4.heap.objs.size]) ht.typeIs (PyProof.Rows.slot_tuple_getitem.lookup) ?_ (by with_unfolding_all rfl)
  refine getItem_tuple_rev ht (Heap.IsSliceOf.new _ vl vu vs) pl pu ps ?_ (by rw [List.size_toArray]; omega)
  refine ⟨.ref _, _, I5.laid (t' := s4.toks) (o := .tup xs.reverse) (fun b ob q => Heap.get?_push_of_some _ q) (Nat.le_refl _) ?_, rfl, q _ (I5.hok.fresh (Nat.le_refl _))⟩
  refine ⟨?_, _, r.reverse, IsTup.new _ _⟩
  rw [List.length_reverse]; exact hz
theorem v_revT {a : Expr} {fa : Rho → Res PyData} {k : Nat} {p1 p2 p3 pos : Pos} (ha : VE X T E a fa) : VE X T E (.Subscript a (.Slice none none (some (.UnaryOp .USub (.Constant (.int 1) k p1) p2)) p3) pos) (fun ρ => (fa ρ).bind revT) :=
  PE.rd (pe_revT ha) fun σ H Q ⟨ρ, S, h⟩ => ⟨ρ, S, (Post.bind h).imp fun v H1 u1 ⟨d, rx, _, h3⟩ => by
    cases d with
    | tuple xs =>
      cases rx with
      | tup s r z =>
        refine ⟨_, _, rfl, s, fun p hp => new_tup h3 r.reverse ?_ p hp⟩
        rw [List.length_reverse]
        exact z
    | _ => exact h3.elim⟩
end
end PX

/-! enumerate of a tuple -/
namespace PX
open PySem PySem.Spec PyProof.Rows L2 LamX
theorem made_enumT (t : Addr) (items : Array Value) : Meets (Builtin.«enumerate.__new__» ⟨[.type "enumerate", .ref t], []⟩) (fun _ R s => s.heap.IsTuple t items ∧
    R (.ok (.ret (.ref (s.heap.push { cls := .type "tuple_iterator", data := .fields #[.ref t, .int 0 0] }).objs.size)))
      { s with heap := (s.heap.push { cls := .type "tuple_iterator", data := .fields #[.ref t, .int 0 0] }).push { cls := .type "enumerate", data := .fields #[.none, .bool false, .ref s.heap.objs.size, rawInt 0, .none, .none] } }) :=
  .of_wp fun prog w A R s ⟨ht, h⟩ => by
    obtain ⟨hp, g, d, tk, os⟩ := s
    have hsub := sub_enumerate
    have q1 : ∀ {A' : Around} {E : Value → Shared → Prop} {Q : Value → Shared → Prop}, Q (.ref hp.objs.size) ⟨hp.push { cls := .type "tuple_iterator", data := .fields #[.ref t, .int 0 0] }, g, d, tk, os⟩ → wpAny (model prog w) A' (pyIter (.ref t)) Q E ⟨hp, g, d, tk, os⟩ :=
      fun q => (begins_tuple t items).iter prog w _ _ ⟨hp, g, d, tk, os⟩ _ ht q
    wp_walk using q1
    refine wpAny_stack_any fun st => wpAny_pure ?_
    split
    · rename_i c _ _ _ _ _
      cases (c == Value.type "enumerate") <;> (wp_walk using q1; exact ⟨_, rfl, h⟩)
    · wp_walk using q1
      exact ⟨_, rfl, h⟩
section
variable {prog : Program} {w : World} {A : Around} {E : Value → Shared → Prop} {s : Shared}
theorem call_enumT {t : Addr} {items : Array Value} {Q : Value → Shared → Prop} (ht : s.heap.IsTuple t items)
    (k : ∀ h', IsEnum h' (s.heap.objs.size + 1) s.heap.objs.size 0 .none → h'.IsTupleIter s.heap.objs.size t 0 → (∀ b o, s.heap.get? b = some o → h'.get? b = some o) → Q (.ref (s.heap.objs.size + 1)) { s with heap := h' }) :
    wpAny (model prog w) A (call (.type "enumerate") [.ref t]) Q E s := by
  refine callType_new F.called_enumerate (by decide) (F.typeCall_enumerate_1 _) (F.newCall_enumerate_1 _) (fun obj => F.args_object_init_2 obj _) F.entry_enumerate_new (made_enumT t items) ⟨ht, ?_⟩
  have hz : (s.heap.push { cls := .type "tuple_iterator", data := .fields #[.ref t, .int 0 0] }).objs.size = s.heap.objs.size + 1 := Heap.size_push ..
  have he : IsEnum ((s.heap.push { cls := .type "tuple_iterator", data := .fields #[.ref t, .int 0 0] }).push { cls := .type "enumerate", data := .fields #[.none, .bool false, .ref s.heap.objs.size, rawInt 0, .none, .none] }) (s.heap.objs.size + 1) s.heap.objs.size 0 .none := by
    have q := Heap.get?_push_size (s.heap.push { cls := .type "tuple_iterator", data := .fields #[.ref t, .int 0 0] }) (o := { cls := .type "enumerate", data := .fields #[.none, .bool false, .ref s.heap.objs.size, rawInt 0, .none, .none] }) rfl
    rwa [hz] at q
  show _ ∧ _
  rw [hz]
  exact ⟨⟨_, he, rfl⟩, k _ he ⟨_, Heap.get?_push_of_some _ (Heap.get?_push_size _ rfl), rfl, rfl⟩ fun b o x => Heap.get?_push_of_some _ (Heap.get?_push_of_some _ x)⟩
end
/-- the tuple at a as it stands at each turn, each item in a new pair -/
def IteT (K : PySem.W.Frag) (a : Addr) : It :=
  ⟨fun i H => ∃ (xs : List V) (x : V), SqT K H a xs ∧ xs[i]? = some x, fun i H v H' => ∃ P x, v = .ref P ∧ H P = none ∧ H' = upd H P (.tup [.int (i : Nat), x]) ∧ ∀ xs, SqT K H a xs → xs[i]? = some x, fun i H => ∃ xs : List V, SqT K H a xs ∧ xs.length ≤ i⟩
theorem turn_enumT {P : Program} {w : World} {K : PySem.W.Frag} {elts : List Expr} {kk : Nat} {tpos : Pos} (a e it : Addr) (h1 : e ≠ it) (h2 : e ≠ a) (h3 : a ≠ it) :
    Turn P w K (.Tuple elts kk tpos) (IteT K a) [e, it] e (fun i h => (∃ old, IsEnum h e it ((i : Nat) : Int) old) ∧ h.IsTupleIter it a i) where
  mem := List.mem_cons_self
  obj := fun i h st b hb => by
    obtain ⟨⟨old, he⟩, o, ho, hc, hd⟩ := st
    rcases List.mem_cons.mp hb with z | hb
    · subst z; exact ⟨_, he, fun v q => nomatch q⟩
    · rw [List.mem_singleton.mp hb]; exact ⟨o, ho, fun v q => by rw [hd] at q; cases q⟩
  keep := fun i h h' st k => ⟨let ⟨old, he⟩ := st.1; ⟨old, k e (by simp) _ he⟩, st.2.at fun o q => k it (by simp) o q⟩
  item := by
    intro X hP hw hK hc i pins s σ H E I hf st ⟨xs, x, hq, hx⟩
    subst hP hw hK
    obtain ⟨⟨old, he⟩, hit⟩ := st
    obtain ⟨its, rv, p, hz⟩ := I.tuple hq
    obtain ⟨u, hu, ru⟩ := rv.get hx
    have hel : e < s.heap.objs.size := Heap.lt_size he
    have hil : it < s.heap.objs.size := by obtain ⟨_, q, _⟩ := hit; exact Heap.lt_size q
    have hin : i < its.toArray.size := by
      have := (List.getElem?_eq_some_iff.mp hu).1
      rw [List.size_toArray]; exact this
    have D := Draws.tuple (prog := X.prog) (w := X.w) (A := X.A.in1) (I.ok.hd hc) it a h3 its.toArray
    refine wpAny_pyNext_enum_itemC D he ⟨hit, p⟩ hin h1 (by simp [h1, h2]) fun y h' tk hy ho hst hT hsz hk => ?_
    have ey : y = u := by
      have hy : its.toArray[i]? = some y := hy
      have hu' : its.toArray[i]? = some u := by simpa using hu
      rw [hu'] at hy
      exact (Option.some.inj hy).symm
    subst ey
    refine ⟨_, rfl, wpAny_letOwnedTupleGo_enum (s := { s with heap := h', toks := tk + 1 }) ho fun h'' he' sb => ?_⟩
    have hT2 : h''.get? s.heap.objs.size = some { cls := .type "tuple", data := .seq #[.int i tk, y] } := (sb.2 _ (Nat.ne_of_gt hel)).trans hT
    have new : ObjOk X.prog X.w (upd H s.heap.objs.size (.tup [.int (i : Nat), x])) h'' s.heap.objs.size (.tup [.int (i : Nat), x]) :=
      ⟨by show 2 ≤ sizeLine; decide, [.int i tk, y], .cons ⟨_, rfl⟩ (.cons ru .nil), ⟨_, hT2, rfl, _, rfl⟩⟩
    have I1 : Inv X pins σ (upd H s.heap.objs.size (.tup [.int (i : Nat), x])) { s with heap := h'', toks := tk + 1 } := I.turnedNew (ch := [e, it]) (fun b ob hb q => by
      have b1 : b ≠ e := fun z => hb (by simp [z])
      exact (sb.2 b b1).trans (hk b ob b1 (fun z => hb (by simp [z])) q)) hf (Nat.le_refl _) new
    refine ⟨.ref s.heap.objs.size, _, I1, rfl, ⟨_, x, rfl, I.hok.fresh (Nat.le_refl _), rfl, fun ys hy => by rw [I.tuple_inj hy hq]; exact hx⟩, ⟨⟨y, ?_⟩, hst.1.at fun o q => (sb.2 it (Ne.symm h1)).trans q⟩, fun b hb => ?_⟩
    · rw [show ((i + 1 : Nat) : Int) = (i : Int) + 1 by omega]; exact he'
    · have hb' : b < s.heap.objs.size := by
        rcases List.mem_cons.mp hb with z | z
        · rw [z]; exact hel
        · rw [List.mem_singleton.mp z]; exact hil
      rw [upd_ne (Nat.ne_of_lt hb')]
      exact (hf b hb).1
  done := by
    intro X hP hw hK hc i pins s σ H E I hf st ⟨xs, hq, hx⟩
    subst hP hw hK
    obtain ⟨⟨old, he⟩, hit⟩ := st
    obtain ⟨its, rv, p, hz⟩ := I.tuple hq
    obtain ⟨f0, f1, f2, f3, f4, f5⟩ := hf it (by simp)
    have hl := rv.length
    have hT : s.TypeIs (.ref e) "enumerate" := ⟨_, he, rfl⟩
    unfold pyNext
    refine wpAny_bind (wpAny_attempt (wpAny_callSpecial?_slot (name := Str.ofString "__next__") hT F.slot_enumerate_next (wpAny_call_entry F.slot_enumerate_next hT F.entry_enumerate_next ?_ (F.args_enumerate_next_1 _))))
    show wpAny _ _ (field (.ref e) 2 >>= _) _ _ _
    refine wpAny_bind (wpAny_field he rfl (x := .ref it) rfl (wpAny_bind (wpAny_nextOf_tuple_end (A := X.A.in1) (I.ok.hd hc) hit p (by simp; omega) fun h' x eb hx' => ?_)))
    obtain ⟨o, ho, hcl⟩ := hx'
    refine wpAny_bind (wpAny_isInstance (T := "StopIteration") (b := true) ⟨o, ho, hcl⟩ isSubtype_stop (wpAny_pure ?_))
    exact ⟨rfl, I.turned (t' := s.toks) (fun b o hb q => eb b o hb q) f0 f1 f3 f4 f5⟩
  self := fun A i s Q E st h => let ⟨⟨_, he⟩, _⟩ := st; wpAny_pyIter_enum he h
def iEnumT (K : PySem.W.Frag) (ta : TA) : TI := fun σ H R => ta σ H fun vs H1 => ∃ a xs, vs = [.ref a] ∧ SqT K H1 a xs ∧ R (IteT K a) H1
theorem pi_enumT {X : Cx} {e : Expr} {ta : TA} {p pos tpos : Pos} {elts : List Expr} {kk : Nat} (hg : Gl X "enumerate") (hm : X.mg "enumerate" = none) (ha : PA X [e] ta) (hs : starEach [e] X.env = [(false, eval e X.env)] := by rfl) :
    PI X (.Tuple elts kk tpos) (.Call (.Name "enumerate" p) [e] [] pos) (iEnumT X.K ta) := by
  refine ⟨fun pins s σ H R I h => Call_ (ld_blt I hg hm boot_enumerate (PyProof.Rows.callWith_type1 (thn (ha.run pos pins s σ H _ I h) fun us s1 ⟨vs, H1, I1, r1, a, xs, ex, hq, q⟩ => ?_) hs rfl))⟩
  subst ex
  cases r1 with
  | cons r rr =>
    cases rr
    cases r
    obtain ⟨its, rv, p', hz⟩ := I1.tuple hq
    have hal : a < s1.heap.objs.size := by obtain ⟨_, q, _⟩ := p'; exact Heap.lt_size q
    refine call_enumT p' fun h' he hit hk => wpAny_pyIter_enum he ?_
    refine ⟨s1.heap.objs.size + 1, [s1.heap.objs.size + 1, s1.heap.objs.size], _, _, H1, rfl, I1.kept (t' := s1.toks) hk, turn_enumT a (s1.heap.objs.size + 1) s1.heap.objs.size (Nat.succ_ne_self _) (Nat.ne_of_gt (Nat.lt_succ_of_lt hal)) (Nat.ne_of_lt hal), ⟨⟨.none, he⟩, hit⟩, fun b hb => ?_, q⟩
    have hle : s1.heap.objs.size ≤ b := by
      rcases List.mem_cons.mp hb with z | z
      · rw [z]; exact Nat.le_add_right _ _
      · rw [List.mem_singleton.mp z]; exact Nat.le_refl _
    exact I1.fpOk hle (I1.hok.fresh hle)
theorem walk_enumT {K : PySem.W.Frag} {a : Addr} {xs : List V} : Walk (IteT K a) xs.length (fun H => SqT K H a xs) (YPair (fun i => some (.int (i : Nat))) (fun i => xs[i]?)) :=
  ⟨fun i _ hi q => ⟨xs, xs[i], q, by simp [hi]⟩, fun _ q => ⟨xs, q, Nat.le_refl _⟩, fun i H v H' _ q ⟨P, x, y1, y2, y3, y4⟩ => ⟨P, .int (i : Nat), x, y1, y2, y3, rfl, y4 xs q⟩⟩
theorem vi_enumT {X : Cx} {T : List (Addr × Str)} {E : XK} {a : Expr} {fa : Rho → Res PyData} {p pos tpos : Pos} {elts : List Expr} {kk : Nat} (hg : Gl X "enumerate") (hm : X.mg "enumerate" = none) (ha : VE X T E a fa) (hs : starEach [a] X.env = [(false, eval a X.env)] := by rfl)
    (na : starEach [a] X.env = (false, eval a X.env) :: starEach [] X.env := by rfl) : VI X T E (.Tuple elts kk tpos) (.Call (.Name "enumerate" p) [a] [] pos) (fun ρ => (fa ρ).bind enumT) :=
  PI.rd (pi_enumT hg hm (pa_cons ha pa_nil na) hs) fun σ H R ⟨ρ, S, h⟩ => ⟨ρ, S, (Post.bind h).imp fun v H1 u1 ⟨d, rx, _, h3⟩ => by
    cases d with
    | tuple ds =>
      cases rx with
      | tup s r z =>
        refine ⟨_, _, rfl, s, h3 _ _ (Up.refl H1) ⟨?_, _, _, (by
          rw [List.length_map, List.length_zipIdx, ← r.len]
          exact walk_enumT), fun H' u => SqT_evo u s, fun i H2 x H4 hi u y => ?_⟩⟩
        · rw [List.length_map, List.length_zipIdx]
          exact z
        · obtain ⟨P, x1, y1, rfl, hP, e4, g1, g2⟩ := y
          cases g1
          obtain ⟨d', h1', h2'⟩ := (r.evo u).get g2
          obtain ⟨k1, k2⟩ := iter_pair (T := T) (.int ((i : Nat) : Int)) h2' hP e4
          refine ⟨k1, _, ?_, k2⟩
          rw [List.getElem?_map, List.getElem?_zipIdx, h1']
          simp
    | _ => exact h3.elim⟩
end PX

/-! three names at once, two of them new lists -/
namespace PX
open PySem PySem.Spec PyProof.Rows L2 LamX
section
variable {X : Cx} {T : List (Addr × Str)} {E : XK} {H0 : Hp}
theorem vs_par3m (i j l : Nat) {x y z : Str} {a : Expr} {fa : Rho → Res PyData} {px py pz pt pos pt2 p1 p2 : Pos} {kt k2 : Nat} (hc : X.calm = true) (hN : X.N.Nodup) (ha : VE X T E a fa) (hi : X.N[i]? = some x := by rfl) (hj : X.N[j]? = some y := by rfl) (hl : X.N[l]? = some z := by rfl)
    (hij : i ≠ j := by decide) (hil : i ≠ l := by decide) (hjl : j ≠ l := by decide) (hx : X.env.scope.names.lookup x = some .local := by rfl) (hy : X.env.scope.names.lookup y = some .local := by rfl) (hz : X.env.scope.names.lookup z = some .local := by rfl)
    (n1 : starEach [a, .List [] p1, .List [] p2] X.env = (false, eval a X.env) :: starEach [.List [] p1, .List [] p2] X.env := by rfl)
    (hw : swappedStores [.Tuple [.Name x px, .Name y py, .Name z pz] kt pt] (.Tuple [a, .List [] p1, .List [] p2] k2 pt2) X.env = pure (some [x, y, z]) := by rfl)
    (hs : swapsWithSole [.Tuple [.Name x px, .Name y py, .Name z pz] kt pt] (.Tuple [a, .List [] p1, .List [] p2] k2 pt2) pos.line X.env = pure false := by rfl) :
    VS X T E H0 (.Assign [.Tuple [.Name x px, .Name y py, .Name z pz] kt pt] (.Tuple [a, .List [] p1, .List [] p2] k2 pt2) pos) (fun ρ => (fa ρ).bind fun d => .ok (.nx (((ρ.set i (some (.d d))).set j (some (.mu []))).set l (some (.mu []))))) :=
  PS.rd (ps_par3 hc hN hi hj hl hij hil hjl hx hy hz (pa_cons ha (pa_cons (pe_lst pa_nil) (pa_cons (pe_lst pa_nil) pa_nil)) n1) hw hs) fun D σ H ⟨ρ, S, h⟩ => ⟨ρ, S.e, (PostS.bind S h).imp fun v H1 u ⟨d, r, _, S1, q⟩ => by
    refine ⟨Nat.zero_le _, fun q1 e1 => ⟨Nat.zero_le _, fun q2 e2 => ⟨v, .ref q1, .ref q2, rfl, ?_⟩⟩⟩
    have S2 := (S1.set (i := i) r).newMu (i := j) (ds := []) (vs := []) e1 .nil
    have S3 := S2.newMu (i := l) (ds := []) (vs := []) e2 .nil
    have v1 : Evo T H1 (upd H1 q1 (.lst [])) := (Up.new e1).evo
    exact q _ _ S3 (v1.trans (Up.new e2).evo)⟩
end
end PX

/-! dicts of ints -/
namespace PX
open PySem PySem.Spec PyProof.Rows L2 LamX
/-! ### what changes: the table of a dict -/
section
variable {K : PySem.W.Frag} {T : List (Addr × Str)} {E : XK} {H0 H H1 : Hp} {σ : L2.St} {ρ : Rho} {D : Ends}
theorem Tabs.putD {a : Addr} {u : HO} (t : Tabs T H) (h : ∃ us, H a = some (.dK us)) : Tabs T (upd H a u) := fun p hp => by
  obtain ⟨us, h⟩ := h
  obtain ⟨ps, e, q1, q2⟩ := t p hp
  refine ⟨ps, by rw [upd_ne (fun z => by rw [z, h] at e; cases e)]; exact e, q1, fun pos cv hc => ?_⟩
  obtain ⟨c, e1, e2⟩ := q2 pos cv hc
  exact ⟨c, e1, by rw [upd_ne (fun z => by rw [z, h] at e2; unfold CodeO at e2; cases e2)]; exact e2⟩
theorem Evo.putD {a : Addr} {u : HO} (x : ∃ us, H a = some (.dK us)) : Evo T H (upd H a u) := by
  obtain ⟨us, e⟩ := x
  refine ⟨fun b xs h => ?_, fun b o v h => ?_, fun t => Tabs.putD t ⟨us, e⟩, fun b φ h => ?_⟩
  · rw [upd_ne (fun z => by rw [z, e] at h; cases h)]
    exact h
  · rw [upd_ne (fun z => by rw [z, e] at h; cases h)]
    exact h
  · rw [upd_ne (fun z => by rw [z, e] at h; cases h)]
    exact h
/-- x = {} -/
theorem SOk.newDk {i : Nat} {p : Addr} (s : SOk K T H0 σ H ρ) (hp : H p = none) : SOk K T H0 (σ.set i (some (.ref p))) (upd H p (.dK [])) (ρ.set i (some (.dk []))) := by
  have u : Up T H (upd H p (.dK [])) := Up.new hp
  have s' := s.up u
  refine ⟨⟨by rw [List.length_set, List.length_set]; exact s.e.len, s'.e.tabs, fun j d h => ?_, fun j a h => ?_, fun j ks h => ?_⟩, s'.ext, fun j ds h => ?_, fun j kvs h => ?_⟩
  · obtain ⟨h', hj⟩ := sl_key (fun z => by cases z) h
    rw [List.getElem?_set_ne hj]
    exact s'.e.at_ j d h'
  · obtain ⟨h', hj⟩ := sl_key (fun z => by cases z) h
    rw [List.getElem?_set_ne hj]
    exact s'.e.rf j a h'
  · obtain ⟨h', hj⟩ := sl_key (fun z => by cases z) h
    rw [List.getElem?_set_ne hj]
    exact s'.e.fd j ks h'
  · obtain ⟨h', hj⟩ := sl_key (fun z => by cases z) h
    obtain ⟨q, us, g1, g2, g3, g4, g5⟩ := s'.mu j ds h'
    refine ⟨q, us, by rw [List.getElem?_set_ne hj]; exact g1, g2, g3, g4, fun k ds' hk r => ?_⟩
    obtain ⟨r', hk'⟩ := sl_key (fun z => by cases z) r
    rw [List.getElem?_set_ne hk']
    exact g5 k ds' hk r'
  · by_cases hj : i = j
    · subst hj
      have hl : i < ρ.length := by
        have := (List.getElem?_eq_some_iff.mp h).1
        rwa [List.length_set] at this
      rw [List.getElem?_set_self hl] at h
      cases h
      refine ⟨p, [], List.getElem?_set_self (by rw [s.e.len]; exact hl), upd_same, .nil, Nt.back s.ext (.of_none hp), fun k kvs' hk r => ?_⟩
      rw [List.getElem?_set_ne (Ne.symm hk)] at r ⊢
      obtain ⟨q, us, g1, g2, _⟩ := s.dk k kvs' r
      rw [g1]
      exact fun z => by
        injection z with z; injection z with z; injection z with z
        rw [z, hp] at g2
        cases g2
    · rw [List.getElem?_set_ne hj] at h
      obtain ⟨q0, us0, k1, k2, _⟩ := s.dk j kvs h
      obtain ⟨q, us, g1, g2, g3, g4, g5⟩ := s'.dk j kvs h
      have eq0 : q0 = q := by rw [k1] at g1; injection g1 with g1; injection g1 with g1; injection g1
      refine ⟨q, us, by rw [List.getElem?_set_ne hj]; exact g1, g2, g3, g4, fun k kvs' hk r => ?_⟩
      by_cases hk2 : i = k
      · subst hk2
        have hl : i < ρ.length := by
          have := (List.getElem?_eq_some_iff.mp r).1
          rwa [List.length_set] at this
        rw [List.getElem?_set_self (by rw [s.e.len]; exact hl)]
        exact fun z => by
          injection z with z; injection z with z; injection z with z
          rw [eq0, ← z, hp] at k2
          cases k2
      · rw [List.getElem?_set_ne hk2] at r ⊢
        exact g5 k kvs' hk r
def putD (kvs : List (Int × PyData)) (k : Int) (d : PyData) : List (Int × PyData) := if (kvs.any fun kv => decide (kv.1 = k)) = true then kvs.map (fun kv => if kv.1 = k then (kv.1, d) else kv) else kvs ++ [(k, d)]
theorem Rks.any {us : List (Key × V)} {kvs : List (Int × PyData)} (r : Rks K H us kvs) (k : Int) : (us.any fun kv => decide (kv.1 = (.inl k : Key))) = kvs.any fun kv => decide (kv.1 = k) := by
  induction r with
  | nil => rfl
  | @cons k' v us d kvs r q ih =>
    rw [List.any_cons, List.any_cons, ih]
    congr 1
    exact decide_eq_decide.mpr ⟨fun h => Sum.inl.inj h, fun h => congrArg Sum.inl h⟩
theorem Rks.put {us : List (Key × V)} {kvs : List (Int × PyData)} {v : V} {d : PyData} (r : Rks K H us kvs) (k : Int) (rv : Rp K H v d) : Rks K H (L2.putK us (.inl k) v) (putD kvs k d) := by
  unfold L2.putK putD
  rw [r.any k]
  split
  · rename_i hh
    clear hh
    induction r with
    | nil => exact .nil
    | @cons k' v' us d' kvs r' q ih =>
      rw [List.map_cons, List.map_cons]
      by_cases e : k' = k
      · subst e
        rw [if_pos rfl, if_pos rfl]
        exact .cons rv ih
      · rw [if_neg (fun z => e (by injection z)), if_neg e]
        exact .cons r' ih
  · rename_i hh
    clear hh
    induction r with
    | nil => exact .cons rv .nil
    | cons r' q ih => exact .cons r' ih
theorem Rks.len {us : List (Key × V)} {kvs : List (Int × PyData)} (r : Rks K H us kvs) : us.length = kvs.length := by
  induction r with
  | nil => rfl
  | cons _ _ ih => exact congrArg (· + 1) ih
/-- the dict in a slot has changed -/
theorem SOk.dkput {i : Nat} {kvs kvs2 : List (Int × PyData)} {p : Addr} {us us2 : List (Key × V)} (s : SOk K T H0 σ H ρ) (e : ρ[i]? = some (some (.dk kvs))) (h1 : σ[i]? = some (some (.ref p))) (h2 : H p = some (.dK us)) (h4 : Nt H0 p)
    (h5 : ∀ (j : Nat) (kvs' : List (Int × PyData)), j ≠ i → ρ[j]? = some (some (.dk kvs')) → σ[j]? ≠ some (some (.ref p))) (r : Rks K (upd H p (.dK us2)) us2 kvs2) : SOk K T H0 σ (upd H p (.dK us2)) (ρ.set i (some (.dk kvs2))) := by
  have ev : Evo T H (upd H p (.dK us2)) := Evo.putD ⟨us, h2⟩
  have hl : i < ρ.length := (List.getElem?_eq_some_iff.mp e).1
  refine ⟨⟨by rw [List.length_set]; exact s.e.len, ev.tabs s.e.tabs, fun j d h => ?_, fun j a h => s.e.rf j a (sl_key (fun z => by cases z) h).1, fun j ks h => ?_⟩, ExtN.put s.ext h4, fun j ds h => ?_, fun j kvs' h => ?_⟩
  · obtain ⟨v, g1, g2⟩ := s.e.at_ j d (sl_key (fun z => by cases z) h).1
    exact ⟨v, g1, g2.evo ev⟩
  · obtain ⟨q, g1, g2⟩ := s.e.fd j ks (sl_key (fun z => by cases z) h).1
    exact ⟨q, g1, g2.evo ev⟩
  · obtain ⟨q, vs, g1, g2, g3, g4, g5⟩ := s.mu j ds (sl_key (fun z => by cases z) h).1
    have ne : q ≠ p := fun z => by rw [z, h2] at g2; cases g2
    exact ⟨q, vs, g1, by rw [upd_ne ne]; exact g2, g3.evo ev, g4, fun k ds' hk r => g5 k ds' hk (sl_key (fun z => by cases z) r).1⟩
  · by_cases hj : i = j
    · subst hj
      rw [List.getElem?_set_self hl] at h
      cases h
      refine ⟨p, us2, h1, upd_same, r, h4, fun k kvs' hk r' => ?_⟩
      rw [List.getElem?_set_ne (Ne.symm hk)] at r'
      exact h5 k kvs' hk r'
    · rw [List.getElem?_set_ne hj] at h
      obtain ⟨q, us', g1, g2, g3, g4, g5⟩ := s.dk j kvs' h
      have ne : q ≠ p := fun z => h5 j kvs' (Ne.symm hj) h (by rw [g1, z])
      refine ⟨q, us', g1, by rw [upd_ne ne]; exact g2, g3.evo ev, g4, fun k kvs'' hk r' => ?_⟩
      by_cases hk2 : i = k
      · subst hk2
        rw [h1]
        exact fun z => ne (by injection z with z; injection z with z; injection z with z; exact z.symm)
      · rw [List.getElem?_set_ne hk2] at r'
        exact g5 k kvs'' hk r'
/-- .. is frozen -/
theorem SOk.dkfrz {i : Nat} {kvs : List (Int × PyData)} {p : Addr} {us : List (Key × V)} {o : Obj} (s : SOk K T H0 σ H ρ) (e : ρ[i]? = some (some (.dk kvs))) (h1 : σ[i]? = some (some (.ref p))) (h2 : H p = some (.dK us)) (h3 : Rks K H us kvs) (h4 : Nt H0 p)
    (h5 : ∀ (j : Nat) (kvs' : List (Int × PyData)), j ≠ i → ρ[j]? = some (some (.dk kvs')) → σ[j]? ≠ some (some (.ref p))) : SOk K T H0 σ (upd H p (.frz o (.dK us))) (ρ.set i (some (.fd (.ks (kvs.map (·.1)))))) := by
  have ev : Evo T H (upd H p (.frz o (.dK us))) := Evo.putD ⟨us, h2⟩
  have hl : i < ρ.length := (List.getElem?_eq_some_iff.mp e).1
  refine ⟨⟨by rw [List.length_set]; exact s.e.len, ev.tabs s.e.tabs, fun j d h => ?_, fun j a h => s.e.rf j a (sl_key (fun z => by cases z) h).1, fun j ks h => ?_⟩, ExtN.put s.ext h4, fun j ds h => ?_, fun j kvs' h => ?_⟩
  · obtain ⟨v, g1, g2⟩ := s.e.at_ j d (sl_key (fun z => by cases z) h).1
    exact ⟨v, g1, g2.evo ev⟩
  · by_cases hj : i = j
    · subst hj
      rw [List.getElem?_set_self hl] at h
      cases h
      exact ⟨p, h1, o, us, upd_same, h3.keys⟩
    · rw [List.getElem?_set_ne hj] at h
      obtain ⟨q, g1, g2⟩ := s.e.fd j ks h
      exact ⟨q, g1, g2.evo ev⟩
  · obtain ⟨q, vs, g1, g2, g3, g4, g5⟩ := s.mu j ds (sl_key (fun z => by cases z) h).1
    have ne : q ≠ p := fun z => by rw [z, h2] at g2; cases g2
    exact ⟨q, vs, g1, by rw [upd_ne ne]; exact g2, g3.evo ev, g4, fun k ds' hk r => g5 k ds' hk (sl_key (fun z => by cases z) r).1⟩
  · obtain ⟨h', hj⟩ := sl_key (fun z => by cases z) h
    obtain ⟨q, us', g1, g2, g3, g4, g5⟩ := s.dk j kvs' h'
    have ne : q ≠ p := fun z => h5 j kvs' (Ne.symm hj) h' (by rw [g1, z])
    exact ⟨q, us', g1, by rw [upd_ne ne]; exact g2, g3.evo ev, g4, fun k kvs'' hk r => g5 k kvs'' hk (sl_key (fun z => by cases z) r).1⟩
end
/-! ### rules -/
def FzD (Q : Hp → Prop) (H : Hp) : Prop := Q H ∨ ∃ a us, H a = some (.dK us) ∧ ∀ o, Q (upd H a (.frz o (.dK us)))
section
variable {X : Cx} {T : List (Addr × Str)} {E : XK} {H0 : Hp} {st : Stmt} {sts : List Stmt} {F : Rho → Res Fl} {e : Expr} {f : Rho → Res PyData} {pos pos' dpos : Pos}
theorem PSs.fzD0 {t : TS} (h : PSs X sts t) : PSs X sts (fun D σ H => FzD (t D σ) H) := ⟨fun pins s σ H D I q => by
  rcases q with q | ⟨a, us, e, q⟩
  · exact h.run pins s σ H D I q
  · obtain ⟨o, I2⟩ := I.lock e trivial
    exact h.run pins s σ _ D I2 (q o)⟩
def frzD (i : Nat) (F : Rho → Res Fl) (ρ : Rho) : Res Fl := match ρ[i]? with
  | some (some (.dk kvs)) => F (ρ.set i (some (.fd (.ks (kvs.map (·.1))))))
  | _ => .stuck
theorem vs_frzD (i : Nat) (h : VSs X T E H0 sts F) : VSs X T E H0 sts (frzD i F) := by
  refine PSs.rd (PSs.fzD0 h) fun D σ H ⟨ρ, S, q⟩ => ?_
  unfold frzD at q
  split at q
  · rename_i kvs e
    obtain ⟨p, us, h1, h2, h3, h4, h5⟩ := S.dk i kvs e
    exact .inr ⟨p, us, h2, fun o => ⟨_, S.dkfrz e h1 h2 h3 h4 h5, PostS.evo q (Evo.putD ⟨us, h2⟩)⟩⟩
  · exact q.elim
/-- x = {} -/
theorem vs_setDk (i : Nat) {x : Str} (hN : X.N.Nodup) (hi : X.N[i]? = some x := by rfl) (hx : Loc X.env.scope x := by first | exact Or.inl rfl | exact Or.inr rfl)
    (hs : swapsWith (.Dict [] [] dpos) (some (.Name x pos')) pos.line X.env = pure false := by rfl) (hf : X.fn x = true ∨ X.env.scope.names.lookup x = some .local := by first | exact .inl rfl | exact .inr rfl) :
    VS X T E H0 (.Assign [.Name x pos'] (.Dict [] [] dpos) pos) (fun ρ => .ok (.nx (ρ.set i (some (.dk []))))) :=
  PS.rd (ps_set hN hi hx pe_dnewK hs hf) fun D σ H ⟨ρ, S, h⟩ => fun p hp => h _ _ (S.newDk hp) (Up.new hp).evo
def dputF (i : Nat) (r : Res PyData) (rv : Res PyData) (ρ : Rho) : Res Fl := match ρ[i]? with
  | some (some (.dk kvs)) => rv.bind fun d => r.bind fun k => match k with
    | .int k => if kvs.length < 1000000 then .ok (.nx (ρ.set i (some (.dk (putD kvs k d))))) else .stuck
    | _ => .stuck
  | _ => .stuck
/-- x[e] = v -/
theorem vs_dput (i : Nat) {x : Str} {v : Expr} {fv : Rho → Res PyData} {p1 : Pos} (hu : X.A.units + 64 < cLine) (he : VE X T E e f) (hv : VE X T E v fv) (hN : X.N[i]? = some x := by rfl) (hvis : Vis X.env.scope x := by first | exact Or.inl rfl | exact Or.inr (Or.inl rfl) | exact Or.inr (Or.inr rfl))
    (hd : (x == ("__debug__" : Str)) = false := by decide) (hcd : (x == ("__classdict__" : Str)) = false := by decide) (hs : swapsWith v (some (.Subscript (.Name x p1) e pos')) pos.line X.env = pure false := by rfl) :
    VS X T E H0 (.Assign [.Subscript (.Name x p1) e pos'] v pos) (fun ρ => dputF i (f ρ) (fv ρ) ρ) := by
  refine PS.rd (ps_dput (by omega) (pe_var hN hvis hd hcd) he hv hs) fun D σ H ⟨ρ, S, h⟩ => ⟨ρ, S.e, ?_⟩
  unfold dputF at h
  dsimp only at h
  split at h
  · rename_i kvs e
    refine (PostS.bind S h).imp fun w H1 u1 ⟨d, rw', _, S1, h1⟩ => ?_
    obtain ⟨p, us, g1, g2, g3, g4, g5⟩ := S1.dk i kvs e
    refine ⟨.ref p, g1, ρ, S1.e, (PostS.bind S1 h1).imp fun y H2 u2 ⟨k, ry, _, S2, h2⟩ => ?_⟩
    obtain ⟨p', us', k1, k2, k3, k4, k5⟩ := S2.dk i kvs e
    have ep : p' = p := by rw [g1] at k1; injection k1 with k1; injection k1 with k1; injection k1 with k1; exact k1.symm
    subst ep
    cases k with
    | int k =>
      cases ry
      dsimp only at h2
      split at h2
      · rename_i hl
        have ev : Evo T H2 (upd H2 p' (.dK (L2.putK us' (.inl k) w))) := Evo.putD ⟨us', k2⟩
        refine ⟨p', _, rfl, DPut.k (k := .inl k) k2 (by rw [k3.len, sizeLine_eq]; omega), h2 _ _ (S2.dkput e k1 k2 k4 k5 ?_) ev⟩
        exact (k3.evo ev).put k ((rw'.up u2).evo ev)
      · exact h2.elim
    | _ => exact h2.elim
  · exact h.elim
def keysD (i : Nat) (ρ : Rho) : Res (List PyData) := match ρ[i]? with
  | some (some (.fd (.ks ks))) => if ks.length ≤ 1000000 then .ok (ks.map .int) else .stuck
  | _ => .stuck
/-- for k in x -/
theorem vi_keysD (i : Nat) {x : Str} {p1 : Pos} {tg : Expr} (hN : X.N[i]? = some x := by rfl) (hvis : Vis X.env.scope x := by first | exact Or.inl rfl | exact Or.inr (Or.inl rfl) | exact Or.inr (Or.inr rfl))
    (hd : (x == ("__debug__" : Str)) = false := by decide) (hcd : (x == ("__classdict__" : Str)) = false := by decide) : VI X T E tg (.Name x p1) (keysD i) :=
  PI.rd (pi_keys (pe_var hN hvis hd hcd)) fun σ H R ⟨ρ, S, h⟩ => by
    unfold keysD at h
    split at h
    · rename_i ks e
      obtain ⟨p, g1, o, us, g2, g3⟩ := S.fd i (.ks ks) e
      split at h
      · rename_i hz
        have hl : us.length = ks.length := by
          have := congrArg List.length g3
          rwa [List.length_map, List.length_map] at this
        refine ⟨.ref p, g1, p, o, rfl, .inl ⟨us, g2, h _ _ (Up.refl H) ⟨by rw [List.length_map, sizeLine_eq]; omega, _, _, (by rw [List.length_map, ← hl]; exact walk_keys), fun H' u => u.frz _ _ _ g2, fun j H2 x H4 hj u y => ?_⟩⟩⟩
        obtain ⟨rfl, k, v, y1, y2⟩ := y
        have hk : (us.map (·.1))[j]? = some k := by rw [List.getElem?_map, y1]; rfl
        rw [g3, List.getElem?_map] at hk
        cases hks : ks[j]? with
        | none => rw [hks] at hk; cases hk
        | some n =>
          rw [hks] at hk
          injection hk with hk
          subst hk
          refine ⟨Up.refl _, .int n, by rw [List.getElem?_map, hks]; rfl, ?_⟩
          rw [y2]
          exact .int n
      · exact h.elim
    · exact h.elim
end
end PX

/-! x = a + b of lists, x a list that grows -/
namespace PX
open PySem PySem.Spec PyProof.Rows L2 LamX
def catF (i : Nat) (r r' : Res PyData) (ρ : Rho) : Res Fl := r.bind fun d => r'.bind fun d' => match d, d' with
  | .list xs, .list ys => if xs.length + ys.length ≤ 1000000 then .ok (.nx (ρ.set i (some (.mu (xs ++ ys))))) else .stuck
  | _, _ => .stuck
section
variable {X : Cx} {T : List (Addr × Str)} {E : XK} {H0 : Hp}
theorem vs_cat (i : Nat) {x : Str} {a b : Expr} {fa fb : Rho → Res PyData} {pos pos' bpos : Pos} (hN : X.N.Nodup) (ha : VE X T E a fa) (hb : VE X T E b fb) (hi : X.N[i]? = some x := by rfl) (hx : Loc X.env.scope x := by first | exact Or.inl rfl | exact Or.inr rfl)
    (hs : swapsWith (.BinOp a .Add b bpos) (some (.Name x pos')) pos.line X.env = pure false := by rfl) (hf : X.fn x = true ∨ X.env.scope.names.lookup x = some .local := by first | exact .inl rfl | exact .inr rfl) :
    VS X T E H0 (.Assign [.Name x pos'] (.BinOp a .Add b bpos) pos) (fun ρ => catF i (fa ρ) (fb ρ) ρ) :=
  PS.rd (ps_set hN hi hx (pe_op s_add ha hb) hs hf) fun D σ H ⟨ρ, S, h⟩ => ⟨ρ, S.e, by
    unfold catF at h
    refine (PostS.bind S h).imp fun v H1 u1 ⟨d, r, _, S1, h1⟩ => ⟨ρ, S1.e, (PostS.bind S1 h1).imp fun w H2 u2 ⟨d', r', _, S2, h2⟩ => ?_⟩
    split at h2
    · rename_i xs ys
      split at h2
      · rename_i hz
        have r2 := r.up u2
        cases r2 with
        | lst s1 q1 z1 =>
          cases r' with
          | lst s2 q2 z2 =>
            refine .inr (.inr (.inr ⟨_, _, _, _, rfl, rfl, s1.l, s2.l, by rw [q1.len, q2.len, sizeLine_eq]; omega, fun p hp => ?_⟩))
            exact h2 _ _ (S2.newMu hp (q1.append q2)) (Up.new hp).evo
      · exact h2.elim
    · exact h2.elim⟩
end
end PX

/-! functions handed in: a lambda of one parameter, a def, called by a parameter's name -/
namespace PX
open PySem PySem.Spec PyProof.Rows L2 LamX HotX L2H NdefX
/-! ### what is known of an object -/
def Kn (o : Obj) : HO := .frz o (.ext fun _ => True)
theorem kn_ok {P : Program} {w : World} {H : Hp} {h : Heap} {a : Addr} {o : Obj} (e : h.get? a = some o) : ObjOk P w H h a (Kn o) := ⟨e, trivial, ⟨o, e⟩, fun _ _ _ _ => trivial⟩
/-- cells are tracked -/
noncomputable def trk (cs : List Addr) (h : Heap) (H : Hp) : Hp := fun b => if b ∈ cs then (h.get? b).map Kn else H b
def unt (cs : List Addr) (H : Hp) : Hp := fun b => if b ∈ cs then none else H b
theorem unt_in {cs : List Addr} {H : Hp} {b : Addr} (h : b ∈ cs) : unt cs H b = none := if_pos h
theorem unt_out {cs : List Addr} {H : Hp} {b : Addr} (h : b ∉ cs) : unt cs H b = H b := if_neg h
theorem trk_in {cs : List Addr} {h : Heap} {H : Hp} {b : Addr} {o : Obj} (hb : b ∈ cs) (e : h.get? b = some o) : trk cs h H b = some (Kn o) := by
  unfold trk
  rw [if_pos hb, e]
  rfl
theorem trk_out {cs : List Addr} {h : Heap} {H : Hp} {b : Addr} (hb : b ∉ cs) : trk cs h H b = H b := if_neg hb
/-! data lean on lists and tuples alone -/
section
variable {K : PySem.W.Frag} {H H' : Hp}
mutual
theorem Rp.weak (ht : ∀ b xs, H b = some (.tup xs) → H' b = some (.tup xs)) (hl : ∀ b o xs, H b = some (.frz o (.lst xs)) → H' b = some (.frz o (.lst xs))) (hq : ∀ b o xs, H b = some (.frz o (.tup xs)) → H' b = some (.frz o (.tup xs))) : ∀ {d : PyData} {v : V}, Rp K H v d → Rp K H' v d
  | .none, _, h => by cases h; exact .non
  | .bool b, _, h => by cases h; exact .bl b
  | .int i, _, h => by cases h; exact .int i
  | .str x, _, h => by cases h with | str _ q z => exact .str x q z
  | .list ds, _, h => by
    cases h with
    | lst s r z =>
      refine .lst ?_ (Rps.weak ht hl hq r) z
      rcases s with ⟨o, s⟩ | s
      · exact .inl ⟨o, hl _ _ _ s⟩
      · exact .inr s
  | .tuple ds, _, h => by
    cases h with
    | tup s r z =>
      refine .tup ?_ (Rps.weak ht hl hq r) z
      rcases s with (s | ⟨o, s⟩) | s
      · exact .inl (.inl (ht _ _ s))
      · exact .inl (.inr ⟨o, hq _ _ _ s⟩)
      · exact .inr s
  | .dict _, _, h => by cases h
theorem Rps.weak (ht : ∀ b xs, H b = some (.tup xs) → H' b = some (.tup xs)) (hl : ∀ b o xs, H b = some (.frz o (.lst xs)) → H' b = some (.frz o (.lst xs))) (hq : ∀ b o xs, H b = some (.frz o (.tup xs)) → H' b = some (.frz o (.tup xs))) : ∀ {ds : List PyData} {vs : List V}, Rps K H vs ds → Rps K H' vs ds
  | [], _, h => by cases h; exact .nil
  | d :: ds, _, h => by cases h with | cons a b => exact .cons (Rp.weak ht hl hq a) (Rps.weak ht hl hq b)
end
/-- cells that are known -/
def Kc (cs : List Addr) (h : Heap) (H : Hp) : Prop := ∀ c ∈ cs, ∃ o, h.get? c = some o ∧ H c = some (Kn o)
theorem Kc.ne {cs : List Addr} {h : Heap} {b : Addr} {u : HO} (k : Kc cs h H) (e : H b = some u) (n : ∀ o, u ≠ Kn o) : b ∉ cs := fun hb => by
  obtain ⟨o, _, e2⟩ := k b hb
  rw [e] at e2
  exact n o (Option.some.inj e2)
theorem Rp.unt {cs : List Addr} {h : Heap} {d : PyData} {v : V} (k : Kc cs h H) (r : Rp K H v d) : Rp K (unt cs H) v d :=
  r.weak (fun b xs e => by rw [unt_out (k.ne e fun o z => by cases z)]; exact e) (fun b o xs e => by rw [unt_out (k.ne e fun o z => by cases z)]; exact e) fun b o xs e => by rw [unt_out (k.ne e fun o z => by cases z)]; exact e
theorem Rps.unt {cs : List Addr} {h : Heap} {ds : List PyData} {vs : List V} (k : Kc cs h H) (r : Rps K H vs ds) : Rps K (PX.unt cs H) vs ds :=
  r.weak (fun b xs e => by rw [unt_out (k.ne e fun o z => by cases z)]; exact e) (fun b o xs e => by rw [unt_out (k.ne e fun o z => by cases z)]; exact e) fun b o xs e => by rw [unt_out (k.ne e fun o z => by cases z)]; exact e
theorem Tabs.unt {T : List (Addr × Str)} {cs : List Addr} {h : Heap} (k : Kc cs h H) (t : Tabs T H) : Tabs T (PX.unt cs H) := fun p hp => by
  obtain ⟨ps, e, q1, q2⟩ := t p hp
  refine ⟨ps, by rw [unt_out (k.ne e fun o z => by cases z)]; exact e, q1, fun pos cv hc => ?_⟩
  obtain ⟨c, e1, e2⟩ := q2 pos cv hc
  exact ⟨c, e1, by rw [unt_out (k.ne e2 fun o z => by unfold CodeO at z; cases z)]; exact e2⟩
theorem hok_unt {P : Program} {w : World} {cs : List Addr} {h h0 : Heap} (k : Kc cs h0 H) (x : HOk P w H h) : HOk P w (unt cs H) h := fun a o e => by
  have ha : a ∉ cs := fun hb => by rw [unt_in hb] at e; cases e
  rw [unt_out ha] at e
  exact (x a o e).stay (fun b u _ q => q) (fun b q => by rw [unt_out (k.ne q fun o z => by cases z)]; exact q) fun b xs q => by rw [unt_out (k.ne q fun o z => by cases z)]; exact q
end
/-! ### a lambda made, new -/
section
variable {X : Cx} {pins : List (Addr × Obj)} {σ : L2.St} {H : Hp} {s : Shared}
theorem lam_make3 {T : List (Addr × Str)} {c P : Addr} {params : Arguments} {body : Expr} {scope : Scope} {pos : Pos} {E : Value → Shared → Prop} {Q : Value → Shared → Prop} (I : Inv X pins σ H s) (TB : TabB X.base X.mg c P) (hcode : X.env.code = .ref c)
    (hm : (P, X.env.qual ++ "<lambda>") ∈ T) (hu : ∀ p ∈ T, p.1 = P → p.2 = X.env.qual ++ "<lambda>") (hT : Tabs T H) (hdef : defaultsOf params X.env = ([], [])) (hfree : ∀ y ∈ scope.names, y.2 = .free → ∃ c, X.env.cells.lookup y.1 = some c)
    (h : ∀ (f c' : Addr) (pm ctv : Value) (H1 : Hp) (s' : Shared), Inv X pins σ H1 s' → ExtN H H1 → Tabs T H1 →
      H1 f = some (Kn (PySem.W.kla_obj "<lambda>" (X.env.qual ++ "<lambda>") params body scope (cloFrom X.env.cells scope.names []) pm c' ctv)) → H1 c' = some (CodeO c' (X.env.qual ++ "<lambda>")) → Q (.ref f) s') :
    wpAny (model X.prog X.w) X.A (eval (.Lambda params body scope pos) X.env) Q E s := by
  obtain ⟨ps, hP, ht, ha⟩ := hT _ hm
  refine PySem.W.kla_eval hdef ?_
  have bP : s.heap.BuiltinsAt X.mg P := TB.bm.keeps I.bk
  have hP' : s.heap.get? P = some { cls := .none, data := .fields ps } := I.hok P _ hP
  have last : ∀ {f c' : Addr} {pm ctv : Value} {H1 : Hp} {h' : Heap} {tk : Nat}, f = h'.objs.size → Inv X pins σ H1 { s with heap := h', toks := tk } → ExtN H H1 → Tabs T H1 → H1 c' = some (CodeO c' (X.env.qual ++ "<lambda>")) →
      Q (.ref f) { s with heap := h'.push (PySem.W.kla_obj "<lambda>" (X.env.qual ++ "<lambda>") params body scope (cloFrom X.env.cells scope.names []) pm c' ctv), toks := tk } := fun {f c' pm ctv H1 h' tk} ef I0 hE t1 hco => by
    subst ef
    have hn : H1 h'.objs.size = none := I0.hok.fresh (Nat.le_refl _)
    have u : Up T H1 (upd H1 h'.objs.size (Kn (PySem.W.kla_obj "<lambda>" (X.env.qual ++ "<lambda>") params body scope (cloFrom X.env.cells scope.names []) pm c' ctv))) := Up.new hn
    exact h _ c' pm ctv _ _ (I0.laid (t' := tk) (fun b u e => Heap.get?_push_of_some _ e) (Nat.le_refl _) (kn_ok (Heap.get?_push_size _ rfl))) (hE.trans u.1) (u.2 t1) upd_same (by rw [upd_ne (ne_of_none hco hn)]; exact hco)
  cases hc : codeAmong pos ps.toList with
  | none =>
    refine PySem.W.kla_makeFunction (mg := X.mg) (c := c) (P := P) (ps := ps) (closure_ok hfree) I.ok.glob (I.mod.glob.keeps I.bk) hcode (TB.code.keeps I.bk) hP' ht hc TB.gP bP fun c' ctv h' tk hx hge hlt hrec htb => ?_
    obtain ⟨c2, oc, vs, t, e2, hoc, hd, hv⟩ := hrec
    cases e2
    have nC : H c' = none := I.hok.fresh hge
    have I0 := inv_table (t' := tk) (more := #[rawInt pos.line, rawInt pos.col, .ref c']) (h' := h') I hP hx htb hge ⟨oc, vs, t, hoc, hd, hv⟩
    have hE : ExtN H (upd (upd H P (.tbl (ps ++ #[rawInt pos.line, rawInt pos.col, .ref c']))) c' (CodeO c' (X.env.qual ++ "<lambda>"))) := fun b o e n => by
      rw [upd_ne (ne_of_none e nC), upd_ne (fun z => n ps (Option.some.inj (e.symm.trans (by rw [z]; exact hP))))]
      exact e
    have eL : (ps ++ #[rawInt pos.line, rawInt pos.col, .ref c']).toList = ps.toList ++ [rawInt pos.line, rawInt pos.col, .ref c'] := by simp
    refine last rfl I0 hE (fun p hp => ?_) upd_same
    by_cases hb : p.1 = P
    · rw [hu p hp hb, hb]
      refine ⟨_, by rw [upd_ne (ne_of_none hP nC), upd_same], by rw [eL]; exact PySem.TriplesOk_snoc _ _ _ _ ht, fun p' cv hcv => ?_⟩
      rw [eL] at hcv
      rcases among_app _ ht hcv with z | z
      · obtain ⟨c0, e1, e2⟩ := ha p' cv z
        exact ⟨c0, e1, hE _ _ e2 codeO_ne⟩
      · exact ⟨c', z, upd_same⟩
    · obtain ⟨ps', a1, a2, a3⟩ := hT p hp
      refine ⟨ps', by rw [upd_ne (ne_of_none a1 nC), upd_ne hb]; exact a1, a2, fun p' cv hcv => ?_⟩
      obtain ⟨c0, e1, e2⟩ := a3 p' cv hcv
      exact ⟨c0, e1, hE _ _ e2 codeO_ne⟩
  | some cv =>
    obtain ⟨c', e, hco⟩ := ha pos cv hc
    subst e
    refine PySem.W.kla_makeFunctionHit (mg := X.mg) (c := c) (P := P) (ps := ps) (closure_ok hfree) I.ok.glob (I.mod.glob.keeps I.bk) hcode (TB.code.keeps I.bk) hP' ht hc bP fun ctv h' tk hx hsz => ?_
    have I1 : Inv X pins σ H { s with heap := h', toks := tk } := I.kept hx
    exact last rfl I1 (ExtN.refl H) hT hco
end
/-! ### what a function tells of one thing -/
structure LookF (P : Program) (w : World) (K : PySem.W.Frag) (mg : Str → Option Value) (base : Heap) (T : List (Addr × Str)) (k : Nat) (f : Addr) (I : Hp → Prop) (g : PyData → Res PyData) : Prop where
  isf : ∀ (H : Hp) (h : Heap), HOk P w H h → K.In h → I H → PySem.W.FnAt f h
  run : ∀ (A : Around) (outer : List Env) (s : Shared) (H : Hp) (u : Value) (v : V) (d : PyData) (Q : VK), Room k A → Env0 P w K mg base A outer s H → I H → Tabs T H → L2.RelV v u → Rp K H v d → Post K T L2.E0 (Rp K) (g d) H Q →
    codeAny (model P w) A (.call (.ref f) ⟨[u], []⟩) (CR (L2N.CX P w) outer P w H s Q L2.E0) s
/-- slot i holds the function at f, while I -/
noncomputable def lookD (i : Nat) (f : Addr) (I : Hp → Prop) (r : Res PyData) (ρ : Rho) : Res PyData := match ρ[i]? with
  | some (some (.fd (.fn f' I' _))) => (@ite _ (f' = f ∧ I' = I) (Classical.propDecidable _) r .stuck)
  | _ => .stuck
def one (g : PyData → Res PyData) : List PyData → Res PyData
  | [d] => g d
  | _ => .stuck
theorem v_look {Y : Cx} {T : List (Addr × Str)} {k j i : Nat} {f : Addr} {I : Hp → Prop} {g : PyData → Res PyData} {x : Str} {p pos : Pos} {e : Expr} {fa : Rho → Res (List PyData)} (L : LookF Y.prog Y.w Y.K Y.mg Y.base T k f I g) (hr : Room j Y.A) (hk : k ≤ j)
    (ha : VA Y T L2.E0 [e] fa) (hN : Y.N[i]? = some x := by rfl) (hv : Vis Y.env.scope x := by first | exact Or.inl rfl | exact Or.inr (Or.inl rfl) | exact Or.inr (Or.inr rfl)) (hd : (x == ("__debug__" : Str)) = false := by decide) (hcd : (x == ("__classdict__" : Str)) = false := by decide)
    (he : starEach [e] Y.env = (false, eval e Y.env) :: starEach [] Y.env := by rfl) (hpl : (backTo pos (starEach [] Y.env)).any (·.1) = false := by rfl) :
    VE Y T L2.E0 (.Call (.Name x p) [e] [] pos) (fun ρ => lookD i f I ((fa ρ).bind (one g)) ρ) := by
  refine ⟨fun pins s σ H Q I0 ⟨ρ, S, h⟩ => ?_⟩
  unfold lookD at h
  dsimp only at h
  split at h
  · rename_i f' I' st e1
    split at h
    · rename_i hh
      obtain ⟨rfl, rfl⟩ := hh
      obtain ⟨p', g1, g2, g3⟩ := S.fd i _ e1
      subst g2
      refine wpAny_Call_Name_kw (thn ((pe_var (pos := p) hN hv hd hcd).run pins s σ H (fun v H1 => v = .ref p' ∧ H1 = H) I0 ⟨.ref p', g1, rfl, rfl⟩) fun u s1 ⟨v, H1, I1, r1, q1⟩ => ?_)
      obtain ⟨rfl, rfl⟩ := q1
      obtain rfl : u = Value.ref p' := r1
      refine PySem.W.callWith_F (first := []) (L.isf _ _ I1.hok I1.kIn g3) (thn (ha.pa.run pos pins s1 σ _ _ I1 ⟨ρ, S, Post.bind h⟩) fun us s2 ⟨vs, H2, I2, r, ds, rd, up, q⟩ => ?_) he hpl
      have h3 := st T _ _ up.evo g3
      refine ⟨L.isf _ _ I2.hok I2.kIn h3, ?_⟩
      show wpAny _ _ (call (.ref p') us) _ _ _
      match ds, q, rd with
      | [d], q, rd =>
        obtain ⟨v, rfl, rv⟩ := rd.one
        obtain ⟨u1, rfl, r2⟩ : ∃ u1, us = [u1] ∧ L2.RelV v u1 := by
          cases r with
          | cons a b => cases b; exact ⟨_, rfl, a⟩
        refine wpAny_call (codeAny_mono (L.run Y.A Y.stack s2 H2 u1 v d Q (hr.mono hk) I2.env0 h3 (up.2 S.tabs) r2 rv q) fun r s' hq => ?_)
        cases r with
        | error e => exact (no_cx hq).elim
        | ok fl =>
          cases fl with
          | ret u => exact I2.after hq
          | next => exact False.elim hq
          | brk => exact False.elim hq
          | cont => exact False.elim hq
      | [], q, rd => exact q.elim
      | _ :: _ :: _, q, rd => exact q.elim
    · exact h.elim
  · exact h.elim
/-! ### a def of the top -/
theorem look_def {P : Program} {w : World} {K : PySem.W.Frag} {mg : Str → Option Value} {base : Heap} {T : List (Addr × Str)} {x y qual : Str} {params : Arguments} {body : List Stmt} {scope : Scope} {fd : FuncData} {k : Nat} {ps : List Str} {g : List PyData → Res PyData}
    (Fd : FunD K y qual params body scope [] [] (He.ga K x) fd) (F : OkF P w K mg base T x k ps g) (h1 : ps.length = 1) : LookF P w K mg base T k (He.ga K x) (fun _ => True) (fun d => g [d]) := by
  obtain ⟨oc, od, dV, kV, doc, pm, an, cdv, ct, osl, efd, lk, _⟩ := Fd.ex
  obtain ⟨fd', fo, bd⟩ := F.ex
  refine ⟨fun H h _ kin _ => ⟨_, _, _, _, kin _ _ lk⟩, fun A outer s H u v d Q hr e0 _ t rv rd q => ?_⟩
  have kin : K.In s.heap := e0.mod.kin.keeps fun b o e => (e0.bs b o e).1
  have b := bd s [u] kin (by rw [List.append_nil, h1]; rfl)
  rw [List.append_nil] at b
  exact fo.run A outer s H ⟨[u], []⟩ [u] [v] Q L2.E0 hr e0 b (.cons rv .nil) ⟨[d], .cons rd .nil, h1.symm, t, q⟩
/-! ### a lambda -/
abbrev lamNF (X : Cx) (params : Arguments) (scope : Scope) (c' : Addr) : NF := ⟨"<lambda>", X.env.qual ++ "<lambda>", params, [], scope, cloFrom X.env.cells scope.names [], c'⟩
abbrev lamP (X : Cx) (N : List Str) (params : Arguments) (scope : Scope) (c' f : Addr) (A : Around) (outer : List Env) (s : Shared) (H : Hp) (E : XK) : Cx := ncx (L2N.CX X.prog X.w) X.prog X.w X.K X.mg X.base N (lamNF X params scope c') f A outer s H E
theorem lamP_tk {X : Cx} {N : List Str} {params : Arguments} {scope : Scope} {c' f : Addr} {A : Around} {outer : List Env} {s : Shared} {H : Hp} {E : XK} : L2N.Takes (lamP X N params scope c' f A outer s H E) (fun cls d _ H => E cls d H) := L2N.takes_of rfl rfl rfl (by rfl)
theorem lamP_b {X : Cx} {N : List Str} {params : Arguments} {scope : Scope} {c' f : Addr} {A : Around} {outer : List Env} {s : Shared} {H : Hp} {E : XK} {k : Nat} (hr : Room k (A.deeper (envF (lamNF X params scope c') f s.heap.objs.size))) : BCx (lamP X N params scope c' f A outer s H E) E k :=
  ⟨rfl, passes_of (by rfl), lamP_tk, L2N.passes_call lamP_tk fun _ _ _ _ h => h, hr, hr.units⟩
def capD (ρ : Rho) (j : Nat) : Option Sl := match ρ[j]? with
  | some (some (.d x)) => some (.d x)
  | _ => none
def lamRho (n : Nat) (js : List Nat) (ρ : Rho) (d : PyData) : Rho := some (.d d) :: (js.map (capD ρ) ++ List.replicate (n - 1 - js.length) none)
/-- cells written over -/
def mrg (cs : List Addr) (H H' : Hp) : Hp := fun b => if b ∈ cs then H b else H' b
theorem mrg_in {cs : List Addr} {H H' : Hp} {b : Addr} (h : b ∈ cs) : mrg cs H H' b = H b := if_pos h
theorem mrg_out {cs : List Addr} {H H' : Hp} {b : Addr} (h : b ∉ cs) : mrg cs H H' b = H' b := if_neg h
section
variable {P : Program} {w : World} {cs : List Addr} {H : Hp} {s s2 : Shared} {outer : List Env} {Q : VK} {u : Value}
theorem mrg_up {T : List (Addr × Str)} {h : Heap} {H' : Hp} (k : Kc cs h H) (n : ∀ c ∈ cs, H' c = none) (u : Up T (unt cs H) H') (t : Tabs T H) : Up T H (mrg cs H H') ∧ Up T H' (mrg cs H H') := by
  have u2 : Up T H' (mrg cs H H') := Up.of fun b o e => by
    rw [mrg_out (fun hb => by rw [n b hb] at e; cases e)]
    exact e
  refine ⟨⟨fun b o e q => ?_, fun _ => u2.2 (u.2 (Tabs.unt k t))⟩, u2⟩
  by_cases hb : b ∈ cs
  · rw [mrg_in hb]
    exact e
  · rw [mrg_out hb]
    exact u.1 b o (by rw [unt_out hb]; exact e) q
theorem ce_back (k : Kc cs s.heap H) (fr : ∀ b ∈ frs outer, H b = none) (h : CE outer P w (unt cs H) s (fun v H' => (∀ c ∈ cs, H' c = none) → Q v (mrg cs H H')) u s2) : CE outer P w H s Q u s2 := by
  obtain ⟨v, H', h1, h2, h3, h4, h5, h6⟩ := h
  have nf : ∀ c ∈ cs, c ∉ frs outer := fun c hc z => by
    obtain ⟨o, _, e⟩ := k c hc
    rw [fr c z] at e
    cases e
  have n : ∀ c ∈ cs, H' c = none := fun c hc => by
    obtain ⟨o, e, _⟩ := k c hc
    exact h3.free c o e (unt_in hc) (by simp)
  have out : ∀ {b : Addr}, H b = none → b ∉ cs := fun {b} e hb => by
    obtain ⟨o, _, e2⟩ := k b hb
    rw [e] at e2
    cases e2
  have two : ∀ {b : Addr} {x : HO}, H b = some x → (∀ o, x ≠ Kn o) → b ∉ cs := fun {b x} e ne hb => k.ne e ne hb
  refine ⟨v, mrg cs H H', h1, h2, ⟨fun b o q e f x => h3.keep b o q (by rw [unt_out (out e)]; exact e) f x, fun b o q e f x => h3.slot b o q (by rw [unt_out (out e)]; exact e) f x, fun b o q e x => ?_, h3.there, fun b xs e => ?_, fun b o y e => ?_, fun b ps e => ?_⟩, fun b o e => ?_, h5, h6 n⟩
  · rw [mrg_out (out e)]
    exact h3.free b o q (by rw [unt_out (out e)]; exact e) x
  · have hb := two e fun o z => by cases z
    rw [mrg_out hb]
    exact h3.tups b xs (by rw [unt_out hb]; exact e)
  · by_cases hb : b ∈ cs
    · rw [mrg_in hb]
      exact e
    · rw [mrg_out hb]
      exact h3.frzs b o y (by rw [unt_out hb]; exact e)
  · have hb := two e fun o z => by cases z
    rw [mrg_out hb]
    exact h3.tbls b ps (by rw [unt_out hb]; exact e)
  · by_cases hb : b ∈ cs
    · rw [mrg_in hb] at e
      obtain ⟨o', e1, e2⟩ := k b hb
      rw [e2] at e
      cases e
      exact kn_ok (h3.keep b o' e1 (unt_in hb) (nf b hb) (by simp))
    · rw [mrg_out hb] at e
      exact (h4 b o e).stay (fun b u _ q => q) (fun b q => by rw [mrg_out (fun hb => by rw [n b hb] at q; cases q)]; exact q) fun b xs q => by rw [mrg_out (fun hb => by rw [n b hb] at q; cases q)]; exact q
theorem ce_fwd (hc : ∀ c ∈ cs, H c = none ∧ ∃ o, s.heap.get? c = some o) (h : CE outer P w (trk cs s.heap H) s (fun v H' => Kc cs s2.heap H' → Q v (unt cs H')) u s2) : CE outer P w H s Q u s2 := by
  obtain ⟨v, H', h1, h2, h3, h4, h5, h6⟩ := h
  have out : ∀ {b : Addr} {x : HO}, H b = some x → b ∉ cs := fun {b x} e hb => by
    rw [(hc b hb).1] at e
    cases e
  have k' : ∀ c ∈ cs, ∃ o, s.heap.get? c = some o ∧ H' c = some (Kn o) := fun c hc' => by
    obtain ⟨_, o, e⟩ := hc c hc'
    exact ⟨o, e, h3.frzs c o _ (trk_in hc' e)⟩
  have k2 : Kc cs s2.heap H' := fun c hc' => by
    obtain ⟨o, _, e⟩ := k' c hc'
    exact ⟨o, (h4 c _ e).1, e⟩
  refine ⟨v, unt cs H', h1, h2, ⟨fun b o q e f x => ?_, fun b o q e f x => ?_, fun b o q e x => ?_, h3.there, fun b xs e => ?_, fun b o y e => ?_, fun b ps e => ?_⟩, hok_unt k2 h4, h5, h6 k2⟩
  · by_cases hb : b ∈ cs
    · obtain ⟨o', e1, e2⟩ := k' b hb
      rw [e1] at q
      cases q
      exact (h4 b _ e2).1
    · exact h3.keep b o q (by rw [trk_out hb]; exact e) f x
  · by_cases hb : b ∈ cs
    · obtain ⟨o', e1, e2⟩ := k' b hb
      rw [e1] at q
      cases q
      exact ⟨o.slots, (h4 b _ e2).1⟩
    · exact h3.slot b o q (by rw [trk_out hb]; exact e) f x
  · by_cases hb : b ∈ cs
    · exact unt_in hb
    · rw [unt_out hb]
      exact h3.free b o q (by rw [trk_out hb]; exact e) x
  · rw [unt_out (out e)]
    exact h3.tups b xs (by rw [trk_out (out e)]; exact e)
  · rw [unt_out (out e)]
    exact h3.frzs b o y (by rw [trk_out (out e)]; exact e)
  · rw [unt_out (out e)]
    exact h3.tbls b ps (by rw [trk_out (out e)]; exact e)
end
/-! ### the lambda's promise -/
section
variable {X : Cx} {pins : List (Addr × Obj)} {σ : L2.St} {H : Hp} {s : Shared}
/-- what is known while the lambda may be called -/
def lamI (K : PySem.W.Frag) (σ : L2.St) (ρ : Rho) (js : List Nat) (cs : List Addr) (h : Heap) (f c' : Addr) (fo : Obj) (q : Str) (H : Hp) : Prop :=
  H f = some (Kn fo) ∧ H c' = some (CodeO c' q) ∧ Kc cs h H ∧ ∀ j ∈ js, ∀ d, ρ[j]? = some (some (.d d)) → ∃ v, σ[j]? = some (some v) ∧ Rp K H v d
theorem lamI_st {K : PySem.W.Frag} {ρ : Rho} {js : List Nat} {cs : List Addr} {h : Heap} {f c' : Addr} {fo : Obj} {q : Str} : ∀ (T : List (Addr × Str)) (H H' : Hp), Evo T H H' → lamI K σ ρ js cs h f c' fo q H → lamI K σ ρ js cs h f c' fo q H' := fun T H H' u ⟨h1, h2, h3, h4⟩ =>
  ⟨u.frz _ _ _ h1, u.ext _ _ h2, fun c hc => by
    obtain ⟨o, e1, e2⟩ := h3 c hc
    exact ⟨o, e1, u.frz _ _ _ e2⟩, fun j hj d e => by
    obtain ⟨v, e1, e2⟩ := h4 j hj d e
    exact ⟨v, e1, e2.evo u⟩⟩
theorem clo_mem {cl : List (Str × Addr)} {y : Str} {c : Addr} (h : cl.lookup y = some c) : c ∈ cl.map (·.2) := List.mem_map.mpr ⟨_, PySem.mem_of_lookup h, rfl⟩
theorem start_lam {K : PySem.W.Frag} {T : List (Addr × Str)} {N : List Str} {js : List Nat} {ρ : Rho} {v : V} {d : PyData} {H : Hp} (hN : 1 + js.length ≤ N.length) (t : Tabs T H) (r : Rp K H v d) (hv : ∀ j ∈ js, ∀ d, ρ[j]? = some (some (.d d)) → ∃ v, σ[j]? = some (some v) ∧ Rp K H v d) : EOk K T (startF N [v] (js.map (slotAt σ))) H (lamRho N.length js ρ d) := by
  have e : startF N [v] (js.map (slotAt σ)) = some v :: (js.map (slotAt σ) ++ List.replicate (N.length - 1 - js.length) none) := by
    unfold startF
    rw [List.length_map]
    rfl
  have no_ : ∀ (i : Nat) (z : Sl), (lamRho N.length js ρ d)[i]? = some (some z) → (i = 0 ∧ z = .d d) ∨ ∃ n j x, i = n + 1 ∧ js[n]? = some j ∧ ρ[j]? = some (some (.d x)) ∧ z = .d x := fun i z h => by
    unfold lamRho at h
    cases i with
    | zero => cases h; exact .inl ⟨rfl, rfl⟩
    | succ n =>
      rw [List.getElem?_cons_succ] at h
      by_cases hn : n < js.length
      · rw [List.getElem?_append_left (by rw [List.length_map]; exact hn), List.getElem?_map, List.getElem?_eq_getElem hn] at h
        have h : some (capD ρ js[n]) = some (some z) := h
        have h := Option.some.inj h
        unfold capD at h
        split at h
        · rename_i x ex
          cases h
          exact .inr ⟨n, js[n], x, rfl, List.getElem?_eq_getElem hn, ex, rfl⟩
        · cases h
      · rw [List.getElem?_append_right (by rw [List.length_map]; omega), List.getElem?_replicate] at h
        split at h <;> cases h
  rw [e]
  refine ⟨?_, t, fun i x h => ?_, fun i a h => ?_, fun i x h => ?_⟩
  · unfold lamRho
    simp only [List.length_cons, List.length_append, List.length_map, List.length_replicate]
  · rcases no_ i _ h with ⟨rfl, e2⟩ | ⟨n, j, x', rfl, e2, e3, e4⟩
    · cases e2
      exact ⟨v, rfl, r⟩
    · cases e4
      obtain ⟨v', g1, g2⟩ := hv j (List.mem_of_getElem? e2) _ e3
      refine ⟨v', ?_, g2⟩
      have hn : n < js.length := (List.getElem?_eq_some_iff.mp e2).1
      rw [List.getElem?_cons_succ, List.getElem?_append_left (by rw [List.length_map]; exact hn), List.getElem?_map, e2]
      show some (slotAt σ j) = _
      rw [slotAt_of g1]
  · rcases no_ i _ h with ⟨_, e2⟩ | ⟨_, _, _, _, _, _, e4⟩
    · cases e2
    · cases e4
  · rcases no_ i _ h with ⟨_, e2⟩ | ⟨_, _, _, _, _, _, e4⟩
    · cases e2
    · cases e4
theorem look_lam {T : List (Addr × Str)} {params : Arguments} {body : Expr} {scope : Scope} {x : Str} {fr N : List Str} {js : List Nat} {f c' : Addr} {pm ctv : Value} {k : Nat} {ρ : Rho} {fb : Rho → Res PyData} (I : Inv X pins σ H s) (Sc : NScope N [x] fr scope) (cp : Caps X (cloFrom X.env.cells scope.names []) fr js)
    (hce : ∀ y ∈ scope.names, y.2 = .free → ∃ c, X.env.cells.lookup y.1 = some c)
    (hbind : ∀ (u : Value) (cl : List (Str × Addr)), bindArgs (PySem.W.kla_fn "<lambda>" (X.env.qual ++ "<lambda>") params body scope cl pm (.ref c') ctv) ⟨[u], []⟩ = pure [(x, u)])
    (hb : ∀ (A : Around) (outer : List Env) (s : Shared) (H : Hp), BCx (lamP X N params scope c' f A outer s H L2.E0) L2.E0 k → VE (lamP X N params scope c' f A outer s H L2.E0) T L2.E0 body fb) :
    LookF X.prog X.w X.K X.mg X.base T (k + 1) f (lamI X.K σ ρ js ((cloFrom X.env.cells scope.names []).map (·.2)) s.heap f c' (PySem.W.kla_obj "<lambda>" (X.env.qual ++ "<lambda>") params body scope (cloFrom X.env.cells scope.names []) pm c' ctv) (X.env.qual ++ "<lambda>")) (fun d => fb (lamRho N.length js ρ d)) := by
  have C0 := cells_of I cp
  refine ⟨fun H h ok _ ⟨h1, _⟩ => ⟨_, _, _, _, (ok f _ h1).1⟩, fun A outer s1 H1 u v d Q room e0 ⟨h1, h2, h3, h4⟩ t rv rd q => ?_⟩
  generalize hcs : (cloFrom X.env.cells scope.names []).map (·.2) = cs at h3
  have k1 : Kc cs s1.heap H1 := fun c hc => by
    obtain ⟨o, _, e⟩ := h3 c hc
    exact ⟨o, (e0.hok c _ e).1, e⟩
  have same : ∀ {y : Str} {c : Addr}, (cloFrom X.env.cells scope.names []).lookup y = some c → unt cs H1 c = none ∧ ∀ v, s.heap.IsCell c v → s1.heap.IsCell c v := fun {y c} e => by
    have hc : c ∈ cs := by rw [← hcs]; exact clo_mem e
    refine ⟨unt_in hc, fun v ⟨o, ho, hd⟩ => ?_⟩
    obtain ⟨o2, e1, e2⟩ := h3 c hc
    rw [ho] at e1
    cases e1
    exact ⟨o, (e0.hok c _ e2).1, hd⟩
  have C1 : CellsAt (cloFrom X.env.cells scope.names []) fr (js.map (slotAt σ)) s1.heap (unt cs H1) := ⟨C0.len, fun y c e => by
    obtain ⟨v, hv⟩ := (C0.all y c e).2
    exact ⟨(same e).1, v, (same e).2 _ hv⟩, C0.inj, fun i y e => by
    obtain ⟨c, e1, e2⟩ := C0.has i y e
    refine ⟨c, e1, fun v hv => ?_⟩
    obtain ⟨u, r, z⟩ := e2 v hv
    exact ⟨u, r, (same e1).2 _ z⟩⟩
  have e1 : Env0 X.prog X.w X.K X.mg X.base A outer s1 (unt cs H1) := ⟨e0.frames, e0.mod, fun b o e => ⟨(e0.bs b o e).1, by
    by_cases hb : b ∈ cs
    · exact unt_in hb
    · rw [unt_out hb]; exact (e0.bs b o e).2⟩, e0.bsz, e0.funs, fun b hb => by
    by_cases hc : b ∈ cs
    · exact unt_in hc
    · rw [unt_out hc]; exact e0.frf b hb, hok_unt k1 e0.hok, e0.bare⟩
  have fat := (e0.hok f _ h1).1
  obtain ⟨⟨oc, vs, tt, hoc, hdc, hvc⟩, _, _⟩ := e0.hok c' _ h2
  have lim : s1.heap.NoLimit := e0.mod.nolimit.keeps fun b o e => (e0.bs b o e).1
  refine codeAny_mono (R := CR (L2N.CX X.prog X.w) outer X.prog X.w (unt cs H1) s1 (fun v H' => (∀ c ∈ cs, H' c = none) → Q v (mrg cs H1 H')) L2.E0) ?_ fun r s2 hq => ?_
  · refine PySem.W.kla_callFunE room.depth fat rfl Sc.co Sc.gen rfl ⟨c', oc, vs, tt, rfl, hoc, hdc, hvc⟩ ?_
    rw [hbind u]
    refine wpAny_pure (wpAny_newFunctionEnv Sc.nocell (fun y hy => by rw [List.mem_singleton.mp hy]; exact Sc.par x List.mem_cons_self) (fun h₁ hns but => ⟨lim.fresh _ but, ?_⟩) Sc.kind)
    have kept : ∀ b o, s1.heap.get? b = some o → h₁.get? b = some o := fun b o e => but.extBut b o (Nat.ne_of_lt (Heap.lt_size e)) (Heap.get?_push_of_some _ e)
    have J : Inv (lamP X N params scope c' f A outer s1 (unt cs H1) L2.E0) [] (startF N [v] (js.map (slotAt σ))) (unt cs H1) { s1 with heap := h₁, toks := s1.toks + ([(x, u)] : List (Str × Value)).length } := inv_startN (ps := [x]) (us := [u]) Sc room.hd e1 rfl (.cons rv .nil) C1 hns kept
    have hpl : 1 + js.length ≤ N.length := by
      have q := congrArg List.length Sc.pre
      have l := C0.len
      rw [List.length_map] at l
      rw [List.length_take, List.length_append, List.length_singleton] at q
      omega
    have S1 : EOk X.K T (startF N [v] (js.map (slotAt σ))) (unt cs H1) (lamRho N.length js ρ d) := start_lam hpl (Tabs.unt k1 t) (rd.unt k1) fun j hj d e => by
      obtain ⟨v, g1, g2⟩ := h4 j hj d e
      exact ⟨v, g1, g2.unt k1⟩
    refine PySem.W.kla_codeExpr (wpAny_mono ((hb A outer s1 (unt cs H1) (lamP_b (room.deeper _))).run [] _ _ (unt cs H1) _ J ⟨_, S1, ?_⟩) (fun v s2 ⟨v2, H2, J2, rv, q⟩ => ⟨v2, H2, J2.os, J2.bare, J2.base, J2.hok, rv, q⟩) fun _ _ z => z)
    have q : Post X.K T L2.E0 (Rp X.K) (fb (lamRho N.length js ρ d)) H1 Q := q
    cases hfb : fb (lamRho N.length js ρ d) with
    | stuck => rw [hfb] at q; exact q
    | exc c => rw [hfb] at q; exact fun H' up => q H1 (Up.refl H1)
    | ok b =>
      rw [hfb] at q
      intro b' H' up rb n
      obtain ⟨u1, u2⟩ := mrg_up k1 n up t
      exact q b' _ u1 (rb.up u2)
  · cases r with
    | error e => exact (no_cx hq).elim
    | ok fl =>
      cases fl with
      | ret u => exact ce_back k1 e0.frf hq
      | _ => exact hq.elim
end
end PX

/-! a look over a tuple: a def that is handed a function -/
namespace PX
open PySem PySem.Spec PyProof.Rows L2 LamX HotX L2H NdefX
/-! ### what it tells -/
noncomputable def F_law_are (f : Addr) (I : Hp → Prop) (g : PyData → Res PyData) : Rho → Res Fl := (fun ρ => ((andR (((rget ρ 0).bind fun d => .ok (.bool (isTup d)))) ((andR ((chR leI leI (rget ρ 1) ((((rget ρ 0).bind fun d => .ok [d]).bind lenD)) (rget ρ 2))) ((((compD (fun ρ => ((rget ρ 0).bind itD)) (fun d => .ok [d]) [4] (([("_law_one", 4)] : List (Str × Nat)).map (·.2)) (fun ρ => (((((lookD 3 f I ((((rget ρ 4).bind fun d => ((.ok [] : Res (List PyData))).bind fun ds => .ok (d :: ds))).bind (one g)) ρ)).bind toB)).bind fun b => .ok (!b))) (fun ρ => rget ρ 4) ρ)).bind fun d => ((((.ok [] : Res (List PyData))).bind fun ds => .ok (.list ds))).bind fun d' => eqD d d')))))).bind fun d => .ok (.rt d))
abbrev FnSt (I : Hp → Prop) : Prop := ∀ (T : List (Addr × Str)) (H H' : Hp), Evo T H H' → I H → I H'
def areRho (f : Addr) (I : Hp → Prop) (st : FnSt I) (d1 d2 d3 : PyData) : Rho := [some (.d d1), some (.d d2), some (.d d3), some (.fd (.fn f I st)), none]
def yes (_ : Hp) : Prop := True
theorem yes_st : FnSt yes := fun _ _ _ _ _ => trivial
def rtR : Fl → Res PyData
  | .rt d => .ok d
  | _ => .stuck
noncomputable def areR (g : PyData → Res PyData) (d1 d2 d3 : PyData) : Res PyData := (F_law_are 0 yes g (areRho 0 yes yes_st d1 d2 d3)).bind rtR
theorem compL_congr {g : PyData → Res (List PyData)} {is : List Nat} {c c' : Rho → Res Bool} {fe fe' : Rho → Res PyData} {ρ ρ' : Rho} (h1 : ∀ as, c (setsD ρ is as) = c' (setsD ρ' is as)) (h2 : ∀ as, fe (setsD ρ is as) = fe' (setsD ρ' is as)) : ∀ ds, compL g is c fe ρ ds = compL g is c' fe' ρ' ds
  | [] => rfl
  | d :: ds => by
    unfold compL
    simp only [h1, h2, compL_congr h1 h2 ds]
theorem compD_congr {src src' : Rho → Res (List PyData)} {g : PyData → Res (List PyData)} {is own : List Nat} {c c' : Rho → Res Bool} {fe fe' : Rho → Res PyData} {ρ ρ' : Rho} (h0 : src ρ = src' ρ') (h1 : ∀ as, c (setsD (wipeD ρ own) is as) = c' (setsD (wipeD ρ' own) is as)) (h2 : ∀ as, fe (setsD (wipeD ρ own) is as) = fe' (setsD (wipeD ρ' own) is as)) : compD src g is own c fe ρ = compD src' g is own c' fe' ρ' := by
  unfold compD
  rw [h0]
  congr 1
  funext ds
  rw [compL_congr h1 h2 ds]
theorem look_at {f : Addr} {I : Hp → Prop} {st : FnSt I} {r : Res PyData} {a b c : Option Sl} {t : Rho} : lookD 3 f I r (a :: b :: c :: some (.fd (.fn f I st)) :: t) = r := by
  unfold lookD
  show (@ite _ (f = f ∧ I = I) (Classical.propDecidable _) r .stuck) = r
  exact if_pos ⟨rfl, rfl⟩
theorem are_eq (f : Addr) (I : Hp → Prop) (st : FnSt I) (g : PyData → Res PyData) (d1 d2 d3 : PyData) : F_law_are f I g (areRho f I st d1 d2 d3) = F_law_are 0 yes g (areRho 0 yes yes_st d1 d2 d3) := by
  unfold F_law_are
  rw [compD_congr (src' := fun ρ => (rget ρ 0).bind itD) (c' := fun ρ => (((lookD 3 0 yes ((((rget ρ 4).bind fun d => ((.ok [] : Res (List PyData))).bind fun ds => .ok (d :: ds))).bind (one g)) ρ)).bind toB).bind fun b => .ok (!b)) (fe' := fun ρ => rget ρ 4) (ρ' := areRho 0 yes yes_st d1 d2 d3) rfl (fun as => ?_) (fun as => ?_)]
  · rfl
  · cases as with
    | nil =>
      show (((lookD 3 f I _ [_, _, _, _, _]).bind toB).bind _) = (((lookD 3 0 yes _ [_, _, _, _, _]).bind toB).bind _)
      rw [look_at, look_at]
      rfl
    | cons a r =>
      show (((lookD 3 f I _ [_, _, _, _, _]).bind toB).bind _) = (((lookD 3 0 yes _ [_, _, _, _, _]).bind toB).bind _)
      rw [look_at, look_at]
      rfl
  · cases as with
    | nil => rfl
    | cons a r => rfl
theorem are_rt {f : Addr} {I : Hp → Prop} {g : PyData → Res PyData} {ρ : Rho} : ∃ X : Res PyData, F_law_are f I g ρ = X.bind fun d => .ok (.rt d) := ⟨_, rfl⟩
/-! ### the def run -/
def AreRun (P : Program) (w : World) (K : PySem.W.Frag) (mg : Str → Option Value) (base : Heap) (T : List (Addr × Str)) (k : Nat) : Prop :=
  ∀ (f : Addr) (I : Hp → Prop) (st : FnSt I) (g : PyData → Res PyData), LookF P w K mg base T k f I g → ∀ (A : Around) (outer : List Env) (s : Shared) (H : Hp) (us : List Value) (v1 v2 v3 : V) (d1 d2 d3 : PyData) (Q : VK),
    Room (k + 1) A → Env0 P w K mg base A outer s H → Vals [v1, v2, v3, .ref f] us → Rp K H v1 d1 → Rp K H v2 d2 → Rp K H v3 d3 → Tabs T H → I H → Post K T L2.E0 (Rp K) (areR g d1 d2 d3) H Q →
    codeAny (model P w) A (.call (.ref (He.ga K "_law_are")) ⟨us, []⟩) (CR (L2N.CX P w) outer P w H s Q L2.E0) s
structure AreOk (P : Program) (w : World) (K : PySem.W.Frag) (mg : Str → Option Value) (base : Heap) (T : List (Addr × Str)) (k : Nat) : Prop where
  run : AreRun P w K mg base T k
  kp : PySem.W.keepIn K (.ref (He.ga K "_law_are")) = true
  gl : mg "_law_are" = some (.ref (He.ga K "_law_are"))
theorem start_are {K : PySem.W.Frag} {T : List (Addr × Str)} {N : List Str} {H : Hp} {f : Addr} {I : Hp → Prop} {st : FnSt I} {v1 v2 v3 : V} {d1 d2 d3 : PyData} (hN : N.length = 5) (r1 : Rp K H v1 d1) (r2 : Rp K H v2 d2) (r3 : Rp K H v3 d3) (t : Tabs T H) (hI : I H) : SOk K T H (L2.start N [v1, v2, v3, .ref f]) H (areRho f I st d1 d2 d3) := by
  have e : L2.start N [v1, v2, v3, .ref f] = [some v1, some v2, some v3, some (.ref f), none] := by
    unfold L2.start
    rw [hN]
    rfl
  rw [e]
  have no_ : ∀ (i : Nat) (z : Sl), (areRho f I st d1 d2 d3)[i]? = some (some z) → (i = 0 ∧ z = .d d1) ∨ (i = 1 ∧ z = .d d2) ∨ (i = 2 ∧ z = .d d3) ∨ (i = 3 ∧ z = .fd (.fn f I st)) := fun i z h => by
    unfold areRho at h
    match i, h with
    | 0, h => cases h; exact .inl ⟨rfl, rfl⟩
    | 1, h => cases h; exact .inr (.inl ⟨rfl, rfl⟩)
    | 2, h => cases h; exact .inr (.inr (.inl ⟨rfl, rfl⟩))
    | 3, h => cases h; exact .inr (.inr (.inr ⟨rfl, rfl⟩))
    | 4, h => cases h
    | n + 5, h => cases h
  refine ⟨⟨rfl, t, fun i d h => ?_, fun i a h => ?_, fun i x h => ?_⟩, ExtN.refl H, fun i xs h => ?_, fun i kvs h => ?_⟩
  · rcases no_ i _ h with ⟨rfl, e⟩ | ⟨rfl, e⟩ | ⟨rfl, e⟩ | ⟨rfl, e⟩ <;> cases e
    · exact ⟨v1, rfl, r1⟩
    · exact ⟨v2, rfl, r2⟩
    · exact ⟨v3, rfl, r3⟩
  · rcases no_ i _ h with ⟨rfl, e⟩ | ⟨rfl, e⟩ | ⟨rfl, e⟩ | ⟨rfl, e⟩ <;> cases e
  · rcases no_ i _ h with ⟨rfl, e⟩ | ⟨rfl, e⟩ | ⟨rfl, e⟩ | ⟨rfl, e⟩ <;> cases e
    exact ⟨f, rfl, rfl, hI⟩
  · rcases no_ i _ h with ⟨rfl, e⟩ | ⟨rfl, e⟩ | ⟨rfl, e⟩ | ⟨rfl, e⟩ <;> cases e
  · rcases no_ i _ h with ⟨rfl, e⟩ | ⟨rfl, e⟩ | ⟨rfl, e⟩ | ⟨rfl, e⟩ <;> cases e
theorem are_run {P : Program} {w : World} {K : PySem.W.Frag} {mg : Str → Option Value} {base : Heap} {T : List (Addr × Str)} {x qual : Str} {params : Arguments} {body : List Stmt} {scope : Scope} {fd : FuncData} {N : List Str} {k : Nat}
    (Fd : FunD K x qual params body scope [] [] (He.ga K "_law_are") fd) (S : FnScope N ["_law_thing", "_law_low", "_law_high", "_law_look"] scope) (hN : N.length = 5) (bd : Binds K fd ["_law_thing", "_law_low", "_law_high", "_law_look"] [])
    (hb : ∀ (cdv : Value) (A : Around) (outer : List Env) (s : Shared) (H : Hp) (f : Addr) (I : Hp → Prop) (g : PyData → Res PyData), LookF P w K mg base T k f I g → BCx (cxOf (L2N.CX P w) P w K mg base N qual scope (He.ga K "_law_are") cdv A outer s H L2.E0) L2.E0 k →
      VSs (cxOf (L2N.CX P w) P w K mg base N qual scope (He.ga K "_law_are") cdv A outer s H L2.E0) T L2.E0 H body (F_law_are f I g)) : AreRun P w K mg base T k := by
  intro f I st g L A outer s H us v1 v2 v3 d1 d2 d3 Q room e0 rv r1 r2 r3 t hI q
  obtain ⟨oc, od, dV, kV, doc, pm, an, cdv, ct, osl, rfl, lk, hcd, hcode⟩ := code_of Fd
  have kin : K.In s.heap := e0.mod.kin.keeps fun b o e => (e0.bs b o e).1
  have b := bd s us kin (by rw [List.append_nil, ← rv.length]; rfl)
  rw [List.append_nil] at b
  refine run_ofS (N := N) (ps := ["_law_thing", "_law_low", "_law_high", "_law_look"]) (us := us) (vs := [v1, v2, v3, .ref f]) lk hcd S room e0 b rv rfl fun hr' => ?_
  have tk : L2N.Takes (cxOf (L2N.CX P w) P w K mg base N qual scope (He.ga K "_law_are") cdv A outer s H L2.E0) (fun cls d _ H => L2.E0 cls d H) := L2N.takes_of rfl rfl rfl (by rfl)
  have B : BCx (cxOf (L2N.CX P w) P w K mg base N qual scope (He.ga K "_law_are") cdv A outer s H L2.E0) L2.E0 k := ⟨rfl, passes_of (by rfl), tk, L2N.passes_call tk fun _ _ _ _ h => h, hr', hr'.units⟩
  refine ⟨_, hb cdv A outer s H f I g L B, areRho f I st d1 d2 d3, start_are hN r1 r2 r3 t hI, ?_⟩
  obtain ⟨X, hX⟩ := are_rt (f := f) (I := I) (g := g) (ρ := areRho f I st d1 d2 d3)
  unfold areR at q
  rw [← are_eq f I st g d1 d2 d3, hX] at q
  rw [hX]
  cases X with
  | stuck => exact q.elim
  | exc c => exact fun H' u1 u2 => q H' ⟨u1, fun _ => u2⟩
  | ok d => exact fun v H' u1 u2 r' => q v H' ⟨u1, fun _ => u2⟩ r'
/-! ### a lambda as a value -/
theorem pe_lamb {X : Cx} {T : List (Addr × Str)} {cs : List Str} {kw : Nat} {mk : List He.DefD} {d : He.DefD} {params : Arguments} {body : Expr} {scope : Scope} {pos : Pos} (O : ToldOk X.prog X.w X.K X.mg X.base T cs kw mk) (hd : d ∈ mk) (hcode : X.env.code = .ref (He.codeOf X.K d.at_))
    (hq : X.env.qual ++ "<lambda>" = lamQ d) (hdef : defaultsOf params X.env = ([], [])) (hfree : X.Ok → ∀ y ∈ scope.names, y.2 = .free → ∃ c, X.env.cells.lookup y.1 = some c) :
    PE X (.Lambda params body scope pos) (fun _ H Q => Tabs T H ∧ ∀ (f c' : Addr) (pm ctv : Value) (H1 : Hp), Up T H H1 → H1 f = some (Kn (PySem.W.kla_obj "<lambda>" (X.env.qual ++ "<lambda>") params body scope (cloFrom X.env.cells scope.names []) pm c' ctv)) → H1 c' = some (CodeO c' (X.env.qual ++ "<lambda>")) → Q (.ref f) H1) := by
  refine ⟨fun pins s σ H Q I ⟨t, h⟩ => lam_make3 I (O.tab d hd) hcode (by rw [hq]; exact O.inT d hd) (fun q hm e => by rw [hq]; exact O.un d hd q hm e) t hdef (hfree I.ok) fun f c' pm ctv H1 s' I1 eN T1 h1 h2 => ⟨.ref f, H1, I1, rfl, h f c' pm ctv H1 ⟨eN, fun _ => T1⟩ h1 h2⟩⟩
/-! ### the rules -/
section
variable {X : Cx} {T : List (Addr × Str)} {E : XK} {a b c : Expr} {fa fb fc : Rho → Res PyData} {p pos lpos : Pos}
theorem cells_new (I : X.Ok) (hfn : ∀ y, X.fn y = true) {y : Str} {c : Addr} (e : X.env.cells.lookup y = some c) : X.base.get? c = none ∧ c ∉ frs X.outer := by
  have h1 := I.cab y c (hfn y) e
  refine ⟨?_, fun hb => ?_⟩
  · cases h : X.base.get? c with
    | none => rfl
    | some o =>
      have h2 := (I.bs c o h).1
      exact absurd (Nat.lt_of_lt_of_le (Heap.lt_size h2) h1) (Nat.lt_irrefl _)
  · obtain ⟨_, o, ho, _⟩ := I.funs.mem hb
    exact absurd (Nat.lt_of_lt_of_le (Heap.lt_size ho) h1) (Nat.lt_irrefl _)
theorem clo_in {cells : List (Str × Addr)} {names : List (Str × NameKind)} (hfree : ∀ y ∈ names, y.2 = .free → ∃ c, cells.lookup y.1 = some c) {c : Addr} (h : c ∈ (cloFrom cells names []).map (·.2)) : ∃ y, cells.lookup y = some c := by
  obtain ⟨⟨y, c2⟩, hm, rfl⟩ := List.mem_map.mp h
  rcases cloFrom_mem hm with hn | ⟨h1, h2⟩
  · cases hn
  · obtain ⟨c1, hc⟩ := hfree _ h1 rfl
    have hc : cells.lookup y = some c1 := hc
    have e2 : c2 = c1 := by
      rw [h2, hc] <;> rfl
    exact ⟨y, by rw [hc, ← e2]⟩
theorem v_areL {cs : List Str} {kw j k : Nat} {mk : List He.DefD} {d : He.DefD} {params : Arguments} {body : Expr} {scope : Scope} {x : Str} {fr N : List Str} {js : List Nat} {fl : Rho → Res PyData} (O : AreOk X.prog X.w X.K X.mg X.base T (k + 1)) (ht : ToldOk X.prog X.w X.K X.mg X.base T cs kw mk) (hd : d ∈ mk) (hcode : X.env.code = .ref (He.codeOf X.K d.at_))
    (hr : Room j X.A) (hk : k + 2 ≤ j) (hfn : ∀ y, X.fn y = true) (Sc : NScope N [x] fr scope) (cp : X.Ok → Caps X (cloFrom X.env.cells scope.names []) fr js) (hfree : X.Ok → ∀ y ∈ scope.names, y.2 = .free → ∃ c, X.env.cells.lookup y.1 = some c)
    (hb : ∀ (f c' : Addr) (A : Around) (outer : List Env) (s : Shared) (H : Hp), BCx (lamP X N params scope c' f A outer s H L2.E0) L2.E0 k → VE (lamP X N params scope c' f A outer s H L2.E0) T L2.E0 body fl)
    (hg : Gl X "_law_are") (ha : VE X T E a fa) (hbb : VE X T E b fb) (hc : VE X T E c fc) (hq : X.env.qual ++ "<lambda>" = lamQ d := by rfl) (hdef : defaultsOf params X.env = ([], []) := by rfl)
    (hbind : ∀ (q : Str) (cl : List (Str × Addr)) (pm cv ctv u : Value), bindArgs (PySem.W.kla_fn "<lambda>" q params body scope cl pm cv ctv) ⟨[u], []⟩ = pure [(x, u)] := by intros; rfl) (hdb : (("_law_are" : Str) == ("__debug__" : Str)) = false := by decide)
    (he : starEach [a, b, c, .Lambda params body scope lpos] X.env = (false, eval a X.env) :: starEach [b, c, .Lambda params body scope lpos] X.env := by rfl) (hpl : (backTo pos (starEach [b, c, .Lambda params body scope lpos] X.env)).any (·.1) = false := by rfl) (hs2 : starEach [b, c, .Lambda params body scope lpos] X.env = (false, eval b X.env) :: starEach [c, .Lambda params body scope lpos] X.env := by rfl) (hs3 : starEach [c, .Lambda params body scope lpos] X.env = (false, eval c X.env) :: starEach [.Lambda params body scope lpos] X.env := by rfl) :
    VE X T E (.Call (.Name "_law_are" p) [a, b, c, .Lambda params body scope lpos] [] pos) (fun ρ => (fa ρ).bind fun d1 => (fb ρ).bind fun d2 => (fc ρ).bind fun d3 => noX (areR (fun d => fl (lamRho N.length js ρ d)) d1 d2 d3)) := by
  refine ⟨fun pins s σ H Q I ⟨ρ, S, h⟩ => ?_⟩
  have pa := pa_cons ha (pa_cons hbb (pa_cons hc (pa_cons (pe_lamb (pos := lpos) (body := body) ht hd hcode hq hdef hfree) pa_nil) hs3) hs2) he
  let R : List V → Hp → Prop := fun vs H1 => ∃ v1 v2 v3 f d1 d2 d3 c' pm ctv, vs = [v1, v2, v3, .ref f] ∧ Rp X.K H1 v1 d1 ∧ Rp X.K H1 v2 d2 ∧ Rp X.K H1 v3 d3 ∧ EOk X.K T σ H1 ρ ∧
    H1 f = some (Kn (PySem.W.kla_obj "<lambda>" (X.env.qual ++ "<lambda>") params body scope (cloFrom X.env.cells scope.names []) pm c' ctv)) ∧ H1 c' = some (CodeO c' (X.env.qual ++ "<lambda>")) ∧ Post X.K T E (Rp X.K) (noX (areR (fun d => fl (lamRho N.length js ρ d)) d1 d2 d3)) H1 Q
  refine wpAny_Call_Name_kw (ld_glob I hg O.gl (PySem.W.callWith_K (h₀ := X.base) I.ok.mod.kin O.kp (thn (pa.run pos pins s σ H R I ?h) fun us s1 ⟨vs, H1, I1, rv, q1⟩ => ⟨I1.kIn, ?_⟩) he hpl) hdb)
  case h =>
    refine ⟨ρ, S, (Post.bind h).imp fun v1 H1 u1 ⟨d1, r1, _, q1⟩ => ⟨ρ, S.up u1, (Post.bind q1).imp fun v2 H2 u2 ⟨d2, r2, _, q2⟩ => ⟨ρ, (S.up u1).up u2, (Post.bind q2).imp fun v3 H3 u3 ⟨d3, r3, _, q3⟩ => ?_⟩⟩⟩
    have S3 := ((S.up u1).up u2).up u3
    exact ⟨S3.tabs, fun f c' pm ctv H4 u4 e1 e2 => ⟨v1, v2, v3, f, d1, d2, d3, c', pm, ctv, rfl, ((r1.up u2).up u3).up u4, (r2.up u3).up u4, r3.up u4, S3.up u4, e1, e2, Post.up q3 u4⟩⟩
  · obtain ⟨v1, v2, v3, f, d1, d2, d3, c', pm, ctv, rfl, r1, r2, r3, S1, e1, e2, q⟩ := q1
    show wpAny _ _ (call (.ref (He.ga X.K "_law_are")) us) _ _ _
    have hf := hfree I1.ok
    generalize hcs : (cloFrom X.env.cells scope.names []).map (·.2) = cl
    have cell : ∀ c ∈ cl, H1 c = none ∧ (∃ o, s1.heap.get? c = some o) ∧ X.base.get? c = none ∧ c ∉ frs X.stack := fun c hc => by
      rw [← hcs] at hc
      obtain ⟨y, ey⟩ := clo_in hf hc
      obtain ⟨v, o, ho, _⟩ := I1.cell y c ey
      obtain ⟨n1, n2⟩ := cells_new I1.ok hfn ey
      exact ⟨I1.freeC y c ey, ⟨o, ho⟩, n1, fun hb => (List.mem_cons.mp (I1.stkSub c hb)).elim (I1.cne y c ey) n2⟩
    have out : ∀ {b : Addr} {o : HO}, H1 b = some o → b ∉ cl := fun {b o} e hb => by
      rw [(cell b hb).1] at e
      cases e
    have u2 : Up T H1 (trk cl s1.heap H1) := Up.of fun b o e => by rw [trk_out (out e)]; exact e
    have e0 := I1.env0
    have e3 : Env0 X.prog X.w X.K X.mg X.base X.A X.stack s1 (trk cl s1.heap H1) := ⟨e0.frames, e0.mod, fun b o e => ⟨(e0.bs b o e).1, by
      rw [trk_out (fun hb => by rw [(cell b hb).2.2.1] at e; cases e)]
      exact (e0.bs b o e).2⟩, e0.bsz, e0.funs, fun b hb => by
      rw [trk_out (fun hc => (cell b hc).2.2.2 hb)]
      exact e0.frf b hb, fun b o e => by
      by_cases hb : b ∈ cl
      · obtain ⟨o', ho⟩ := (cell b hb).2.1
        rw [trk_in hb ho] at e
        cases e
        exact kn_ok ho
      · rw [trk_out hb] at e
        exact (e0.hok b o e).stay (fun b u _ q => q) (fun b q => by rw [trk_out (out q)]; exact q) fun b xs q => by rw [trk_out (out q)]; exact q, e0.bare⟩
    have L := look_lam (k := k) (fb := fl) (ρ := ρ) (T := T) (f := f) (c' := c') (pm := pm) (ctv := ctv) (params := params) (body := body) I1 Sc (cp I1.ok) hf (fun u cl => hbind _ _ _ _ _ _) (hb f c')
    rw [hcs] at L
    have kc : Kc cl s1.heap (trk cl s1.heap H1) := fun c hc => by
      obtain ⟨o, ho⟩ := (cell c hc).2.1
      exact ⟨o, ho, trk_in hc ho⟩
    have hI : lamI X.K σ ρ js cl s1.heap f c' (PySem.W.kla_obj "<lambda>" (X.env.qual ++ "<lambda>") params body scope (cloFrom X.env.cells scope.names []) pm c' ctv) (X.env.qual ++ "<lambda>") (trk cl s1.heap H1) := ⟨by rw [trk_out (out e1)]; exact e1, by rw [trk_out (out e2)]; exact e2, kc, fun j _ d e => by
      obtain ⟨v, g1, g2⟩ := S1.at_ j d e
      exact ⟨v, g1, g2.up u2⟩⟩
    refine wpAny_call (codeAny_mono (O.run f _ lamI_st _ L X.A X.stack s1 (trk cl s1.heap H1) us v1 v2 v3 d1 d2 d3 (fun v H' => ∀ h, Kc cl h H' → Q v (unt cl H')) (hr.mono hk) e3 rv (r1.up u2) (r2.up u2) (r3.up u2) (u2.2 S1.tabs) hI ?_) fun r s2 hq => ?_)
    · cases hA : areR (fun d => fl (lamRho N.length js ρ d)) d1 d2 d3 with
      | stuck => rw [hA] at q; exact q.elim
      | exc c => rw [hA] at q; exact q.elim
      | ok d =>
        rw [hA] at q
        intro v H' up rb h k
        refine q v _ ⟨fun b o e n => ?_, fun t => Tabs.unt k (up.2 (u2.2 t))⟩ (rb.unt k)
        have hb := out e
        rw [unt_out hb]
        exact up.1 b o (by rw [trk_out hb]; exact e) n
    · cases r with
      | error e => exact (no_cx hq).elim
      | ok fl =>
        cases fl with
        | ret u =>
          obtain ⟨v, H', h1, h2, h3, h4, h5, h6⟩ := hq
          exact I1.after (ce_fwd (fun c hc => ⟨(cell c hc).1, (cell c hc).2.1⟩) ⟨v, H', h1, h2, h3, h4, h5, fun k => h6 s2.heap k⟩)
        | _ => exact hq.elim
theorem v_areN {j k : Nat} {f : Addr} {g : PyData → Res PyData} {y : Str} {q : Pos} (O : AreOk X.prog X.w X.K X.mg X.base T k) (L : LookF X.prog X.w X.K X.mg X.base T k f yes g) (hr : Room j X.A) (hk : k + 1 ≤ j) (hg : Gl X "_law_are") (hgy : Gl X y) (hmy : X.mg y = some (.ref f))
    (ha : VE X T E a fa) (hbb : VE X T E b fb) (hc : VE X T E c fc) (hdy : (y == ("__debug__" : Str)) = false := by decide) (hdb : (("_law_are" : Str) == ("__debug__" : Str)) = false := by decide)
    (he : starEach [a, b, c, .Name y q] X.env = (false, eval a X.env) :: starEach [b, c, .Name y q] X.env := by rfl) (hpl : (backTo pos (starEach [b, c, .Name y q] X.env)).any (·.1) = false := by rfl) (hs2 : starEach [b, c, .Name y q] X.env = (false, eval b X.env) :: starEach [c, .Name y q] X.env := by rfl) (hs3 : starEach [c, .Name y q] X.env = (false, eval c X.env) :: starEach [.Name y q] X.env := by rfl) :
    VE X T E (.Call (.Name "_law_are" p) [a, b, c, .Name y q] [] pos) (fun ρ => (fa ρ).bind fun d1 => (fb ρ).bind fun d2 => (fc ρ).bind fun d3 => noX (areR g d1 d2 d3)) := by
  refine ⟨fun pins s σ H Q I ⟨ρ, S, h⟩ => ?_⟩
  have pa := pa_cons ha (pa_cons hbb (pa_cons hc (pa_cons (pe_glob (pos := q) (v := .ref f) hgy hmy rfl hdy) pa_nil) hs3) hs2) he
  let R : List V → Hp → Prop := fun vs H1 => ∃ v1 v2 v3 d1 d2 d3, vs = [v1, v2, v3, .ref f] ∧ Rp X.K H1 v1 d1 ∧ Rp X.K H1 v2 d2 ∧ Rp X.K H1 v3 d3 ∧ EOk X.K T σ H1 ρ ∧ Post X.K T E (Rp X.K) (noX (areR g d1 d2 d3)) H1 Q
  refine wpAny_Call_Name_kw (ld_glob I hg O.gl (PySem.W.callWith_K (h₀ := X.base) I.ok.mod.kin O.kp (thn (pa.run pos pins s σ H R I ?h) fun us s1 ⟨vs, H1, I1, rv, q1⟩ => ⟨I1.kIn, ?_⟩) he hpl) hdb)
  case h =>
    refine ⟨ρ, S, (Post.bind h).imp fun v1 H1 u1 ⟨d1, r1, _, q1⟩ => ⟨ρ, S.up u1, (Post.bind q1).imp fun v2 H2 u2 ⟨d2, r2, _, q2⟩ => ⟨ρ, (S.up u1).up u2, (Post.bind q2).imp fun v3 H3 u3 ⟨d3, r3, _, q3⟩ => ?_⟩⟩⟩
    exact ⟨v1, v2, v3, d1, d2, d3, rfl, (r1.up u2).up u3, r2.up u3, r3, ((S.up u1).up u2).up u3, q3⟩
  · obtain ⟨v1, v2, v3, d1, d2, d3, rfl, r1, r2, r3, S1, q⟩ := q1
    show wpAny _ _ (call (.ref (He.ga X.K "_law_are")) us) _ _ _
    refine wpAny_call (codeAny_mono (O.run f yes yes_st g L X.A X.stack s1 H1 us v1 v2 v3 d1 d2 d3 Q (hr.mono hk) I1.env0 rv r1 r2 r3 S1.tabs trivial ?_) fun r s2 hq => ?_)
    · cases hA : areR g d1 d2 d3 with
      | stuck => rw [hA] at q; exact q.elim
      | exc c => rw [hA] at q; exact q.elim
      | ok d =>
        rw [hA] at q
        exact q
    · cases r with
      | error e => exact (no_cx hq).elim
      | ok fl =>
        cases fl with
        | ret u => exact I1.after hq
        | _ => exact hq.elim
end
/-! ### looks at the texts -/
theorem are_free {X : Cx} {scope : Scope} {fr : List Str} (h : ndefB X.env.scope scope fr = true) (ok : X.Ok) : ∀ y ∈ scope.names, y.2 = .free → ∃ c, X.env.cells.lookup y.1 = some c := fun y hy e => (ndef_free h y hy e).elim (fun z => ok.has _ (.inl z)) fun z => ok.has _ (.inr z)
theorem are_caps {X : Cx} {scope : Scope} {fr : List Str} {js : List Nat} (h : ndefB X.env.scope scope fr = true) (hj : js.map (fun j => X.N[j]?) = fr.map some) (ok : X.Ok) : Caps X (cloFrom X.env.cells scope.names []) fr js := Caps.made ok (ndef_free h) (ndef_fr h) hj
theorem LookF.mono {P : Program} {w : World} {K : PySem.W.Frag} {mg : Str → Option Value} {base : Heap} {T : List (Addr × Str)} {j k : Nat} {f : Addr} {I : Hp → Prop} {g : PyData → Res PyData} (L : LookF P w K mg base T j f I g) (h : j ≤ k) : LookF P w K mg base T k f I g := ⟨L.isf, fun A outer s H u v d Q hr => L.run A outer s H u v d Q (hr.mono h)⟩
theorem look_fc {P : Program} {w : World} {base : Heap} {T : List (Addr × Str)} {fa : List He.Fa} {fn : List He.DefD} {K : PySem.W.Frag} {mg : Str → Option Value} {x : Str} {d : He.DefD} {j k : Nat} {ps : List Str} {g : List PyData → Res PyData} (c : Fc fa fn K mg) (i : Nat) (F : OkF P w K mg base T x j ps g) (hk : j ≤ k) (hl : ps.length = 1 := by rfl) (hi : fn[i]? = some d := by rfl) (hat : d.at_ = (x, none) := by rfl) (h1 : d.dfl = [] := by rfl) (h2 : d.kwd = [] := by rfl) : LookF P w K mg base T k (He.ga K x) yes (fun d => g [d]) := by
  obtain ⟨fd, Fd⟩ := fc_fun c i hi hat h1 h2
  exact (look_def Fd F hl).mono hk
/-- nothing is said of it -/
theorem okF_stuck {P : Program} {w : World} {base : Heap} {T : List (Addr × Str)} {fa : List He.Fa} {fn : List He.DefD} {K : PySem.W.Frag} {mg : Str → Option Value} {x : Str} {d : He.DefD} {ps : List Str} {k : Nat} (c : Fc fa fn K mg) (i j : Nat)
    (hbind : ∀ (kV doc pm : Value) (an : Option Addr) (cdv ct : Value) (us : List Value), us.length = ps.length → bindArgs (PySem.W.fnOf d.name d.qual d.params d.body d.scope .none kV doc pm an cdv ct) ⟨us, []⟩ = pure (ps.zip us))
    (hi : fn[i]? = some d := by rfl) (hj : fa[j]? = some (.glo x) := by rfl) (hat : d.at_ = (x, none) := by rfl) (h1 : d.dfl = [] := by rfl) (h2 : d.kwd = [] := by rfl) : OkF P w K mg base T x k ps (fun _ => .stuck) := by
  obtain ⟨fd, Fd⟩ := c.d.def_ i hi
  have e1 : d.dvs K = [] := by unfold He.DefD.dvs; rw [h1]; rfl
  have e2 : d.kws K = [] := by unfold He.DefD.kws; rw [h2]; rfl
  have e3 : He.fAd K d.at_ = He.ga K x := by rw [hat]; rfl
  rw [e1, e2, e3] at Fd
  refine ⟨⟨fd, ⟨fun vs H Q E h => ?_, fun A outer s H args us vs Q E _ _ _ _ h => ?_⟩, Fd.bindsN hbind⟩, Fd.kp, c.glo j hj⟩
  · obtain ⟨_, _, _, _, q⟩ := h
    exact q.elim
  · obtain ⟨_, _, _, _, q⟩ := h
    exact q.elim
end PX

/-! texts -/
namespace PX
open PySem PySem.Spec PyProof.Rows L2 LamX
def okS (x : Str) : Bool := PyData.strOk x && decide (x.length ≤ sizeLine)
theorem okS_rp {K : PySem.W.Frag} {H : Hp} {x : Str} (h : okS x = true) : Rp K H (.str x) (.str x) := by
  unfold okS at h
  rw [Bool.and_eq_true, decide_eq_true_eq] at h
  exact .str x h.1 h.2
/-! ### str of a number, a number of a text -/
def strD : List PyData → Res PyData
  | [.int i] => if i.natAbs.log2 < 1920 ∧ okS (toString i : String) = true then .ok (.str (toString i : String)) else .stuck
  | _ => .stuck
def intS : List PyData → Res PyData
  | [.str a] => match PySem.intText? a with
    | some n => if a.length ≤ 640 then .ok (.int n) else .stuck
    | none => .stuck
  | _ => .stuck
section
variable {X : Cx} {T : List (Addr × Str)} {E : XK} {a b : Expr} {fa fb : Rho → Res PyData} {p pos : Pos}
theorem n_strI : ServesC X T E (fun xs H Q => ∃ i, xs = [.int i] ∧ i.natAbs.log2 < 1920 ∧ Q (.str (toString i)) H) strD := by
  intro vs ds H Q r h
  unfold strD at h
  split at h
  · obtain ⟨v, rfl, q⟩ := r.one
    cases q
    split at h
    · rename_i hz
      exact ⟨_, rfl, hz.1, .inl (h _ _ (Up.refl H) (okS_rp hz.2))⟩
    · exact h.elim
  · exact h.elim
theorem n_intS : ServesC X T E (fun xs H Q => ∃ a n, xs = [.str a] ∧ PySem.intText? a = some n ∧ a.length ≤ 640 ∧ Q (.int n) H) intS := by
  intro vs ds H Q r h
  unfold intS at h
  split at h
  · obtain ⟨v, rfl, q⟩ := r.one
    cases q
    split at h
    · rename_i n hn
      split at h
      · rename_i hz
        exact ⟨_, _, rfl, hn, hz, .inl (h _ _ (Up.refl H) (.int _))⟩
      · exact h.elim
    · exact h.elim
  · exact h.elim
/-! ### one sign in a text -/
def inS : PyData → PyData → Res PyData
  | .str x, .str z => match x.cps.toList with
    | [c] => .ok (.bool (decide (c ∈ z.cps.toList)))
    | _ => .stuck
  | _, _ => .stuck
theorem n_inS : Serves0 X T E (fun x y H Q => ∃ (c : Nat) (z : Str), x = .str ⟨#[c]⟩ ∧ y = .str z ∧ Q (.bl (decide (c ∈ z.cps.toList))) H) inS := by
  intro x y d d' H Q rx ry h
  unfold inS at h
  split at h
  · rename_i s z
    cases rx
    cases ry
    split at h
    · rename_i c e
      have es : s = ⟨#[c]⟩ := by
        obtain ⟨cps⟩ := s
        have : cps = #[c] := by
          apply Array.toList_inj.mp
          exact e
        rw [this]
      exact ⟨c, z, by rw [es], rfl, h _ _ (Up.refl H) (.bl _)⟩
    · exact h.elim
  · exact h.elim
/-! ### a part of a text -/
def sliceS (lo hi : Option Int) : PyData → Res PyData
  | .str z => if z.length ≤ sizeLine ∧ okS (cutS z lo hi) = true then .ok (.str (cutS z lo hi)) else .stuck
  | _ => .stuck
theorem v_sliceS {lo hi : Option Expr} {fl fh : Rho → Res (Option Int)} {p2 : Pos} (ha : VE X T E a fa) (hl : VO X T E lo fl) (hh : VO X T E hi fh) :
    VE X T E (.Subscript a (.Slice lo hi none p2) pos) (fun ρ => (fa ρ).bind fun d => (fl ρ).bind fun l => (fh ρ).bind fun h => sliceS l h d) := by
  refine PE.rd (pe_slice sl_str ha hl hh) fun σ H Q ⟨ρ, S, h⟩ => ⟨ρ, S, (Post.bind h).imp fun x H1 u1 ⟨d, rx, _, h3⟩ => ⟨ρ, S.up u1, (Post.bind h3).imp fun l H2 u2 ⟨l', e1, _, h4⟩ => ⟨ρ, (S.up u1).up u2, (Post.bind h4).imp fun k H3 u3 ⟨k', e2, _, h5⟩ => ?_⟩⟩⟩
  subst e1 e2
  unfold sliceS at h5
  split at h5
  · cases rx
    split at h5
    · rename_i hz
      exact ⟨_, rfl, hz.1, h5 _ _ (Up.refl H3) (okS_rp hz.2)⟩
    · exact h5.elim
  · exact h5.elim
/-! ### split, join -/
def strT : PyData → Res Str
  | .str a => .ok a
  | _ => .stuck
def splitD (a : Str) : PyData → Res PyData
  | .str b => if (b.length == 0) = false ∧ a.length + 2 ≤ sizeLine ∧ (Txt.split a b).all okS = true ∧ (Txt.split a b).length ≤ sizeLine then .ok (.list ((Txt.split a b).map .str)) else .stuck
  | _ => .stuck
theorem txts_rps {K : PySem.W.Frag} {H : Hp} : ∀ {l : List Str}, l.all okS = true → Rps K H (l.map V.str) (l.map .str)
  | [], _ => .nil
  | x :: l, h => by
    rw [List.all_cons, Bool.and_eq_true] at h
    exact .cons (okS_rp h.1) (txts_rps h.2)
/-- a text's method -/
theorem post_txt {K : PySem.W.Frag} {H : Hp} {Q : VK} {r : Res PyData} {g : Str → Res PyData} (h : Post K T E (Rp K) ((r.bind strT).bind g) H Q) : Post K T E (Rp K) r H (fun x H1 => ∃ a, x = .str a ∧ Up T H H1 ∧ Post K T E (Rp K) (g a) H1 Q) := by
  cases r with
  | stuck => exact h.elim
  | exc c => exact h
  | ok d =>
    cases d with
    | str a =>
      intro v H1 u rx
      cases rx
      exact ⟨a, rfl, u, Post.up h u⟩
    | _ => exact h.elim
theorem v_split {apos : Pos} (ha : VE X T E a fa) (hb : VE X T E b fb) (hs : starEach [b] X.env = [(false, eval b X.env)] := by rfl) (hbase : attributeBase a "split" X.env (eval a X.env) = eval a X.env := by rfl) (hline : (apos.endLine == pos.line) = true := by rfl) :
    VE X T E (.Call (.Attribute a "split" apos) [b] [] pos) (fun ρ => ((fa ρ).bind strT).bind fun s => (fb ρ).bind fun d' => splitD s d') := by
  refine PE.rd (PE.fz (pe_split ha hb hs hbase hline)) fun σ H Q ⟨ρ, S, h⟩ => ⟨ρ, S, (post_txt h).imp fun x H1 _ ⟨a, ex, u1, h3⟩ => ⟨⟨a, ex⟩, ρ, S.up u1, (Post.bind h3).imp fun y H2 u2 ⟨d', ry, _, h4⟩ => ?_⟩⟩
  unfold splitD at h4
  split at h4
  · cases ry
    split at h4
    · rename_i hz
      exact ⟨_, _, ex, rfl, hz.1, hz.2.1, fun p hp => fz_new h4 (txts_rps hz.2.2.1) (by rw [List.length_map]; exact hz.2.2.2) p hp⟩
    · exact h4.elim
  · exact h4.elim
def txtsOf : List PyData → Option (List Str)
  | [] => some []
  | .str x :: ds => (txtsOf ds).map (x :: ·)
  | _ :: _ => none
theorem txtsOf_rps {K : PySem.W.Frag} {H : Hp} : ∀ {ds : List PyData} {vs : List V} {ys : List Str}, Rps K H vs ds → txtsOf ds = some ys → vs = ys.map V.str
  | [], _, ys, r, h => by cases r; cases h; rfl
  | .str x :: ds, _, ys, r, h => by
    cases r with
    | cons r1 r2 =>
      cases r1
      unfold txtsOf at h
      cases e : txtsOf ds with
      | none => rw [e] at h; cases h
      | some zs =>
        rw [e] at h
        cases h
        rw [txtsOf_rps r2 e]
        rfl
  | .none :: _, _, _, _, h => by cases h
  | .bool _ :: _, _, _, _, h => by cases h
  | .int _ :: _, _, _, _, h => by cases h
  | .list _ :: _, _, _, _, h => by cases h
  | .tuple _ :: _, _, _, _, h => by cases h
  | .dict _ :: _, _, _, _, h => by cases h
@[simp] theorem txtsOf_map {α : Type} (f : α → Str) (l : List α) : txtsOf (l.map fun x => .str (f x)) = some (l.map f) := by
  induction l with
  | nil => rfl
  | cons x l ih => simp only [List.map_cons, txtsOf, ih, Option.map_some]
def joinD (a : Str) : PyData → Res PyData
  | .list ds => match txtsOf ds with
    | some ys => if (ys.map (·.length)).sum + ys.length * a.length ≤ 16777216 ∧ okS (Txt.join a ys) = true then .ok (.str (Txt.join a ys)) else .stuck
    | none => .stuck
  | _ => .stuck
theorem v_join {apos : Pos} (ha : VE X T E a fa) (hb : VE X T E b fb) (hs : starEach [b] X.env = [(false, eval b X.env)] := by rfl) (hbase : attributeBase a "join" X.env (eval a X.env) = eval a X.env := by rfl) (hline : (apos.endLine == pos.line) = true := by rfl) :
    VE X T E (.Call (.Attribute a "join" apos) [b] [] pos) (fun ρ => ((fa ρ).bind strT).bind fun s => (fb ρ).bind fun d' => joinD s d') := by
  refine PE.rd (pe_join ha hb hs hbase hline) fun σ H Q ⟨ρ, S, h⟩ => ⟨ρ, S, (post_txt h).imp fun x H1 _ ⟨a, ex, u1, h3⟩ => ⟨⟨a, ex⟩, ρ, S.up u1, (Post.bind h3).imp fun y H2 u2 ⟨d', ry, _, h4⟩ => ?_⟩⟩
  unfold joinD at h4
  split at h4
  · rename_i ds
    cases ry with
    | lst s r z =>
      split at h4
      · rename_i ys e
        have ev := txtsOf_rps r e
        subst ev
        split at h4
        · rename_i hz
          exact ⟨_, _, _, ex, rfl, .inl s.l, hz.1, h4 _ _ (Up.refl H2) (okS_rp hz.2)⟩
        · exact h4.elim
      · exact h4.elim
  · exact h4.elim
/-! ### a text sign by sign -/
def itS : PyData → Res (List PyData)
  | .str x => if x.cps.toList.length ≤ 1000000 ∧ (x.cps.toList.all fun c => PyData.strOk ⟨#[c]⟩) = true then .ok (x.cps.toList.map fun c => .str ⟨#[c]⟩) else .stuck
  | _ => .stuck
theorem sign_rp {K : PySem.W.Frag} {H : Hp} {c : Nat} (h : PyData.strOk ⟨#[c]⟩ = true) : Rp K H (.str ⟨#[c]⟩) (.str ⟨#[c]⟩) := .str _ h (by
  rw [sizeLine_eq]
  show (1 : Nat) ≤ _
  decide)
theorem vi_str {tg : Expr} (ha : VE X T E a fa) : VI X T E tg a (fun ρ => (fa ρ).bind itS) := by
  refine PI.rd (pi_str (tg := tg) ha) fun σ H R ⟨ρ, S, h⟩ => ⟨ρ, S, ?_⟩
  dsimp only at h
  cases e : fa ρ with
  | stuck => rw [e] at h; exact h.elim
  | exc c => rw [e] at h; exact h
  | ok d =>
    rw [e] at h
    cases d with
    | str x =>
      have h : Post X.K T E (fun H' J ds => IterOk X.K T H' J ds) (itS (.str x)) H R := h
      unfold itS at h
      dsimp only at h
      split at h
      · rename_i hz
        intro v H1 u r
        cases r
        have hl : x.cps.size = x.cps.toList.length := (Array.length_toList).symm
        refine ⟨x, rfl, h _ _ u ⟨by rw [List.length_map, sizeLine_eq]; omega, fun _ => True, fun i H v H' => H' = H ∧ ∃ c, x.cps[i]? = some c ∧ v = .str ⟨#[c]⟩, ⟨fun i _ hi _ => ?_, fun _ _ => ?_, fun _ _ _ _ _ _ y => y⟩, fun _ _ => trivial, fun i H1 y H2 hi _ hy => ?_⟩⟩
        · show i < x.cps.size
          rw [List.length_map] at hi
          omega
        · show x.cps.size ≤ _
          rw [List.length_map]
          omega
        · obtain ⟨rfl, c, h1, rfl⟩ := hy
          have h2 : x.cps.toList[i]? = some c := by rw [Array.getElem?_toList]; exact h1
          refine ⟨Up.refl _, .str ⟨#[c]⟩, by rw [List.getElem?_map, h2]; rfl, sign_rp ?_⟩
          exact List.all_eq_true.mp hz.2 c (List.mem_of_getElem? h2)
      · exact h.elim
    | _ => exact h.elim
end
end PX

/-! a comprehension that lets an exception of a call out -/
namespace PX
open PySem PySem.Spec PyProof.Rows L2 LamX
theorem frames_less {h base base' : Heap} (hb : ∀ b, base.get? b = none → base'.get? b = none) : ∀ {l : List Env}, h.FunFrames base l → h.FunFrames base' l
  | [], _ => trivial
  | _ :: _, ⟨hk, ⟨L', o, hf, hn, ho, hd⟩, hr⟩ => ⟨hk, ⟨L', o, hf, hb _ hn, ho, hd⟩, frames_less hb hr⟩
theorem traced_less {h base base' : Heap} {e : Addr} {Z : Obj → Prop} {fl : Value} (hb : ∀ b, base.get? b = none → base'.get? b = none) (t : HandSPX.TracedZ h base e Z fl) : HandSPX.TracedZ h base' e Z fl := by
  obtain ⟨oe, vs, T, oT, ts, he, hz, hd, h1, hn, r⟩ := t
  exact ⟨oe, vs, T, oT, ts, he, hz, hd, h1, hb _ hn, r⟩
section
variable {X : Cx} {pins pinsY : List (Addr × Obj)} {σ σ1 : L2.St} {H3 H1 : Hp} {s3 s1 s2 : Shared} {scope : Scope} {ce : Env} {fp : List Addr} {xe : Value → Shared → Prop} {E : XK}
theorem blk_err (hs : X.stack = X.env :: X.outer) (hf : X.env.frame = some X.env.locals) (tk : L2N.Takes X (fun cls d _ H => E cls d H)) (I3 : Inv X pins σ H3 s3) (f3 : ∀ b ∈ fp, FpOk X pins H3 b) (hce : ce.frame = X.env.frame) (hC : ce.locals = s3.heap.objs.size)
    (I1 : Inv ((X.blk s3 H3 scope ce fp).tr [] xe) pinsY σ1 H1 s1) {e : Value} (c : L2N.CX X.prog X.w X.stack H1 s1 E e s2) : notedBy (model X.prog X.w) X.A ce (CompFails (model X.prog X.w) X.A X.xe ce) e s2 := by
  obtain ⟨a, B, H', cls, d, rfl, fl, hok, ub, na, os, ag, hE⟩ := c
  have hfr : X.A.frames = some (X.env :: X.outer) := by rw [I3.ok.frames, hs]
  have fl' : HandSPX.FlyingZ B (X.env :: X.outer) a (L2N.Zn cls d) s2.heap := by rw [← hs]; exact fl
  have C3 : s3.heap.get? ce.locals = none := by
    cases q : s3.heap.get? ce.locals with
    | none => rfl
    | some o => exact absurd (hC ▸ Heap.lt_size q) (Nat.lt_irrefl _)
  have Cfr : ce.locals ∉ frs X.stack := fun hb => by
    rcases List.mem_cons.mp (I3.stkSub _ hb) with z | z
    · have h1 := I3.lt
      rw [hC] at z
      rw [← z] at h1
      exact Nat.lt_irrefl _ h1
    · exact I3.nofs (Nat.le_of_eq hC.symm) z
  have CH1 : H1 ce.locals = none := I1.free
  obtain ⟨m1, ⟨oC, esC, epC, goC, doC, rC⟩, _⟩ := I1.loc
  have goC : s1.heap.get? ce.locals = some oC := goC
  have CH' : H' ce.locals = none := ub.free _ _ goC CH1
  have CB : B.get? ce.locals = some oC := ub.keep _ _ goC CH1 Cfr
  have aC : a ≠ ce.locals := fun z => by
    have := fl.2.1
    rw [z, CB] at this
    cases this
  -- the ground without the block's names
  obtain ⟨B', b1, b2⟩ := restrict B fun b => decide (b ≠ ce.locals)
  have B'in : ∀ {b o}, B'.get? b = some o → b ≠ ce.locals ∧ B.get? b = some o := fun {b o} e => by
    by_cases hb : b = ce.locals
    · rw [b2 b (decide_eq_false (fun q => q hb))] at e
      cases e
    · rw [b1 b (decide_eq_true hb)] at e
      exact ⟨hb, e⟩
  have B'of : ∀ {b o}, b ≠ ce.locals → B.get? b = some o → B'.get? b = some o := fun {b o} hb e => by rw [b1 b (decide_eq_true hb)]; exact e
  have B'no : ∀ b, B.get? b = none → B'.get? b = none := fun b e => by
    cases q : B'.get? b with
    | none => rfl
    | some o => rw [(B'in q).2] at e; cases e
  show wpAny (model X.prog X.w) X.A (noteFrame (.ref a) ce) _ _ s2
  rw [noteFrame_env _ hce]
  refine PySem.PXN.looks_onZ L2N.Zn.steady hfr hf fl' fun h1 hh up => ?_
  obtain ⟨k1, k2, k3, k4⟩ := hh
  have goC1 : h1.get? ce.locals = some oC := k1 _ _ CB
  refine ⟨_, ⟨oC, esC, epC, goC1, doC, rC⟩, fun h2 m2 hn2 sb2 => ?_⟩
  -- what stays, the block's names let go
  have st2 : B'.StaysIn h2 := fun b o e => (sb2.2 b (B'in e).1).trans (k1 b o (B'in e).2)
  have ff2 : h2.FunFrames B' (X.env :: X.outer) := frames_less B'no (Heap.FunFrames.sameBut sb2 hn2 k3)
  have t2 : HandSPX.TracedZ h2 B' a (L2N.Zn cls d) (rawInt X.env.locals) := by
    obtain ⟨oe, vs, T, oT, ts, he, hz, hd, g1, hnT, hTe, hT, hdT, g3⟩ := k4
    have TC : T ≠ ce.locals := fun z => by rw [z, CB] at hnT; cases hnT
    exact ⟨oe, vs, T, oT, ts, (sb2.2 a aC).trans he, hz, hd, g1, B'no _ hnT, hTe, (sb2.2 T TC).trans hT, hdT, g3⟩
  unfold PySem.passOn
  obtain ⟨oe, vs, T, oT, ts, he, hz, hd, g1, _⟩ := id t2
  refine wpAny_bind (wpAny_field he hd g1 ?_)
  rw [if_neg (show ¬ ((Value.ref T == Value.none) = true) from by simp), hce, hf]
  refine wpAny_bind (HandSPX.setFlight_anyZ (l := X.env :: X.outer) st2 ff2 t2 fun h3 st3 ff3 t3 up3 => wpAny_throw (tk _ _ ?_))
  have t3 : HandSPX.TracedZ h3 B' a (L2N.Zn cls d) (rawInt X.env.locals) := t3
  -- the state without the exception
  obtain ⟨G, G1, G2⟩ := restrict h3 fun b => (B'.get? b).isSome || decide (b ∈ frs X.stack)
  have gB : ∀ b o, B'.get? b = some o → G.get? b = some o := fun b o e => by
    rw [G1 b (by simp [e])]
    exact st3 b o e
  have gF : ∀ b, b ∈ frs X.stack → G.get? b = h3.get? b := fun b hb => G1 b (by simp [hb])
  have og : ∀ b o, G.get? b = some o → h3.get? b = some o ∧ ((B'.get? b).isSome = true ∨ b ∈ frs X.stack) := fun b o e => by
    cases q : ((B'.get? b).isSome || decide (b ∈ frs X.stack)) with
    | false => rw [G2 b q] at e; cases e
    | true =>
      rw [G1 b q] at e
      exact ⟨e, by simpa [Bool.or_eq_true] using q⟩
  have un1 : Un (frs X.stack) fp H3 H1 s3.heap s1.heap := I1.base
  have ne3 : ∀ {b o}, s3.heap.get? b = some o → b ≠ ce.locals := fun {b o} e z => by rw [z, C3] at e; cases e
  have upAll : ∀ b o, s2.heap.get? b = some o → b ≠ ce.locals → (∀ vs, o.data ≠ .fields vs) → ∃ sl, h3.get? b = some { o with slots := sl } := fun b o e hb nf => by
    obtain ⟨sl1, e1⟩ := up b o e nf
    have e2 : h2.get? b = some { o with slots := sl1 } := (sb2.2 b hb).trans e1
    obtain ⟨sl2, e3⟩ := up3 b _ e2 nf
    exact ⟨sl2, e3⟩
  have frNf : ∀ {b}, b ∈ frs X.stack → ∃ o, s3.heap.get? b = some o ∧ ∀ vs, o.data ≠ .fields vs := fun {b} hb => by
    obtain ⟨_, o, ho, hd⟩ := I3.stack.mem hb
    exact ⟨o, ho, hd⟩
  have hokG : HOk X.prog X.w H' G := fun b o e => by
    have hb : b ≠ ce.locals := fun z => by rw [z, CH'] at e; cases e
    refine (hok b o e).stay (fun b2 u q eB => gB _ _ (B'of ?_ eB)) (fun _ q => q) fun _ _ q => q
    rcases q with rfl | q
    · exact hb
    · exact fun z => by rw [z, CH'] at q; cases q
  have slotAll : ∀ b o, s3.heap.get? b = some o → H3 b = none → b ∈ frs X.stack → b ∉ fp → ∃ sl, G.get? b = some { o with slots := sl } := fun b o e n hb hx => by
    obtain ⟨o0, e0, nf⟩ := frNf hb
    rw [e] at e0
    cases e0
    obtain ⟨sl1, e1⟩ := un1.slot b o e n hb hx
    obtain ⟨sl2, e2⟩ := ub.slot b _ e1 hb
    obtain ⟨sl3, e3⟩ := upAll b _ e2 (ne3 e) nf
    exact ⟨sl3, by rw [gF b hb]; exact e3⟩
  refine ⟨a, B', { s3 with heap := G, gens := s2.gens, drawn := s2.drawn, toks := s2.toks }, pins, σ, H', cls, d, rfl, ?_, fun b o e hb => ?_, Heap.UpToSlots.of_keeps fun b o e => (og b o e).1, .inr (.inr ?_), na, ?_, ag, hE⟩
  · refine I3.call (ch := fp) ⟨fun b o e n hb hx => ?_, fun b o e n hb hx => slotAll b o e n hb hx, fun b o e n hx => ?_, fun b o e hx => ?_, fun b xs q => ub.tups b xs (un1.tups b xs q), fun b o u q => ub.frzs b o u (un1.frzs b o u q), fun b ps q => ?_⟩ hokG ag fun b hb => ⟨(f3 b hb).2.2.2.1, (f3 b hb).2.1, (f3 b hb).2.2.2.2.1, (f3 b hb).2.2.2.2.2⟩
    · exact gB b o (B'of (ne3 e) (ub.keep b o (un1.keep b o e n hb hx) (un1.free b o e n hx) hb))
    · obtain ⟨o1, e1⟩ := un1.there b o e hx
      exact ub.free b o1 e1 (un1.free b o e n hx)
    · obtain ⟨o1, e1⟩ := un1.there b o e hx
      by_cases hb : b ∈ frs X.stack
      · obtain ⟨o0, e0, nf⟩ := frNf hb
        rw [e] at e0
        cases e0
        obtain ⟨sl2, e2⟩ := ub.slot b o1 e1 hb
        obtain ⟨_, o2, e2', nf2⟩ := k3.mem (hs ▸ hb)
        have e4 : h2.get? b = some o2 := (sb2.2 b (ne3 e)).trans e2'
        obtain ⟨sl3, e3⟩ := up3 b o2 e4 nf2
        exact ⟨_, by rw [gF b hb]; exact e3⟩
      · obtain ⟨o2, e2⟩ := ub.there b o1 e1 hb
        exact ⟨o2, gB b o2 (B'of (ne3 e) e2)⟩
    · obtain ⟨more, q1⟩ := un1.tbls b ps q
      obtain ⟨more2, q2⟩ := ub.tbls b _ q1
      exact ⟨more ++ more2, by rw [q2, Array.append_assoc]⟩
  · obtain ⟨e', h⟩ := og b o e
    rcases h with h | h
    · obtain ⟨o', q⟩ := Option.isSome_iff_exists.mp h
      have z := st3 b o' q
      rw [e'] at z
      cases z
      exact q
    · exact absurd h hb
  · rw [hs]
    exact ⟨st3, B'no _ k2, ff3, t3⟩
  · exact os.trans I1.os
end
end PX

/-! a comprehension that lets an exception of a call out: the core and the statements -/
namespace PX
open PySem PySem.Spec PyProof.Rows L2 LamX

/-- the block of a comprehension whose calls may let an exception out -/
abbrev blkX (X : Cx) (s : Shared) (H : Hp) (scope : Scope) (ce : Env) (fp : List Addr) : Cx := (X.blk s H scope ce fp).tr [] (notedBy (model X.prog X.w) X.A ce (CompFails (model X.prog X.w) X.A X.xe ce))
theorem ends_err {M : Model} {A : Around} {E : Value → Shared → Prop} {use : Option (Value → Sem Unit)} {Q : Value → Shared → Prop} {acc : Value} {ce : Env} : (fun e s' => compEnds M A E use Q acc ce (.error e) s') = CompFails M A E ce := by cases use <;> rfl
section
variable {X : Cx} {E : XK}
theorem passBlk (hs : X.stack = X.env :: X.outer) (hf : X.env.frame = some X.env.locals) (tk : L2N.Takes X (fun cls d _ H => E cls d H)) {pins : List (Addr × Obj)} {σ : L2.St} {H3 : Hp} {s3 : Shared} {scope : Scope} {ce : Env} {fp : List Addr} (I3 : Inv X pins σ H3 s3) (f3 : ∀ b ∈ fp, FpOk X pins H3 b) (hce : ce.frame = X.env.frame) (hC : ce.locals = s3.heap.objs.size) : Passes (L2N.CX X.prog X.w) (blkX X s3 H3 scope ce fp) E :=
  fun _ _ _ _ _ _ I1 c => blk_err hs hf tk I3 f3 hce hC I1 c
theorem lcX_core {pins : List (Addr × Obj)} {s : Shared} {σ : L2.St} {H : Hp} {Q : VK} {elt tg iter : Expr} {ifs : List Expr} {scope : Scope} {own : List (Str × Nat)} {pos pos' : Pos} {wi : TI} {g : TG} {tt : TT} {te : TE} {use : Option (Value → Sem Unit)} {Qf : Value → Shared → Prop}
    (hst : X.stack = X.env :: X.outer) (hf : X.env.frame = some X.env.locals) (tk : L2N.Takes X (fun cls d _ H => E cls d H))
    (hc : X.calm = true) (hN : X.N.Nodup) (I : Inv X pins σ H s) (hi : PI X tg iter wi) (ok : BlkOk X.N X.env.scope scope own)
    (hg : ∀ (s : Shared) (H : Hp) (C : Addr) (cl : List (Str × Addr)) (fp : List Addr), PG (blkX X s H scope (compEnvC scope cl C X.env) fp) tg g)
    (ht : ∀ (s : Shared) (H : Hp) (C : Addr) (cl : List (Str × Addr)) (fp : List Addr), Passes (L2N.CX X.prog X.w) (blkX X s H scope (compEnvC scope cl C X.env) fp) E → PTs (blkX X s H scope (compEnvC scope cl C X.env) fp) ifs tt)
    (he : ∀ (s : Shared) (H : Hp) (C : Addr) (cl : List (Str × Addr)) (fp : List Addr), Passes (L2N.CX X.prog X.w) (blkX X s H scope (compEnvC scope cl C X.env) fp) E → PE (blkX X s H scope (compEnvC scope cl C X.env) fp) elt te)
    (hs : ∀ x, foldedSetIterable iter X.env x = pure x) (h : tLc wi g tt te (own.map (·.2)) σ H Q)
    (hRR : ∀ D C s' m H' ce, ce.locals = C → Inv X pins σ H' s' → Q (.ref D) H' → s'.heap.Ns C m → FpOk X pins H' C → compEnds (model X.prog X.w) X.A X.xe use Qf (.ref D) ce (.ok .next) s') :
    wpAny (model X.prog X.w) X.A (comprehension (.ListComp elt [⟨tg, iter, ifs, 0⟩] scope pos) scope X.env pos' (newList []) false (eval iter X.env) use) Qf X.xe s := by
  have hfree : ∀ y ∈ scope.names, y.2 = .free → ∃ c, X.env.cells.lookup y.1 = some c := fun y hy e => by
    rcases ok.free y hy e with k | k
    · exact I.ok.has _ (.inl k)
    · exact I.ok.has _ (.inr k)
  refine comprehension_at (use := use) rfl hs (closure_ok hfree) ok.kind (fun y hy e => by rw [ok.uniq y hy, e])
    (thn (hi.run pins s σ H _ I h) fun xv s1 hx => thn hx fun itv s2 h2 => ?_)
  obtain ⟨it, fp, tn, J, H2, rfl, I2, T, st2, f2, q⟩ := h2
  refine wpAny_newObj_type (newEnv_comp ?_) (by show 0 ≤ sizeLine; decide)
  generalize hD : s2.heap.objs.size = D
  obtain ⟨W, ⟨m0, w0⟩, turn⟩ := q D (I2.hok.fresh (Nat.le_of_eq hD))
  generalize hs3 : ({ s2 with heap := s2.heap.push { cls := .type "list", data := .seq ([] : List Value).toArray } } : Shared) = s3
  have I3 : Inv X pins σ (upd H2 D (.lst [])) s3 := by
    rw [← hs3]
    refine I2.laid (t' := s2.toks) (fun b o e => Heap.get?_push_of_some _ e) (Nat.le_of_eq hD) ⟨Nat.zero_le _, [], 0, .nil, ?_⟩
    rw [← hD]
    exact Heap.get?_push_size _ rfl
  have h3 : s3.heap = s2.heap.push { cls := .type "list", data := .seq ([] : List Value).toArray } := by rw [← hs3]
  have f3 : ∀ b ∈ fp, FpOk X pins (upd H2 D (.lst [])) b ∧ b < s3.heap.objs.size := fun b hb => by
    obtain ⟨o, e, _⟩ := T.obj _ _ st2 b hb
    have hlt := Heap.lt_size e
    refine ⟨⟨?_, (f2 b hb).2⟩, by rw [h3, Heap.size_push]; exact Nat.lt_succ_of_lt hlt⟩
    rw [upd_ne (by rw [← hD]; exact Nat.ne_of_lt hlt)]
    exact (f2 b hb).1
  have st3 : tn 0 s3.heap := T.keep _ _ _ st2 fun b _ o e => by rw [h3]; exact Heap.get?_push_of_some _ e
  have I4 := block_start I3 ok hN f3
  have pg := hg s3 (upd H2 D (.lst [])) s3.heap.objs.size (cellsFrom (s3.heap.objs.size + 1) scope.names (cloFrom X.env.cells scope.names [])) fp
  have ps : Passes (L2N.CX X.prog X.w) (blkX X s3 (upd H2 D (.lst [])) scope (compEnvC scope (cellsFrom (s3.heap.objs.size + 1) scope.names (cloFrom X.env.cells scope.names [])) s3.heap.objs.size X.env) fp) E := passBlk hst hf tk I3 (fun b hb => (f3 b hb).1) rfl rfl
  have pt := ht s3 (upd H2 D (.lst [])) s3.heap.objs.size (cellsFrom (s3.heap.objs.size + 1) scope.names (cloFrom X.env.cells scope.names [])) fp ps
  have pe := he s3 (upd H2 D (.lst [])) s3.heap.objs.size (cellsFrom (s3.heap.objs.size + 1) scope.names (cloFrom X.env.cells scope.names [])) fp ps
  show codeAny _ _ (.compStart (.ListComp elt [⟨tg, iter, ifs, 0⟩] scope pos) 0 (.ref it) (.ref D) (compEnvC scope (cellsFrom (s3.heap.objs.size + 1) scope.names (cloFrom X.env.cells scope.names [])) s3.heap.objs.size X.env)) (compEnds (model X.prog X.w) X.A X.xe use Qf (.ref D) (compEnvC scope (cellsFrom (s3.heap.objs.size + 1) scope.names (cloFrom X.env.cells scope.names [])) s3.heap.objs.size X.env)) { s3 with heap := pushCells (s3.heap.push { cls := .type "dict", data := .dict #[] }) scope.names }
  have nfp : ∀ b ∈ fp, (upd H2 D (.lst [])) b = none := fun b hb => (f3 b hb).1.1
  clear ps
  generalize hce : compEnvC scope (cellsFrom (s3.heap.objs.size + 1) scope.names (cloFrom X.env.cells scope.names [])) s3.heap.objs.size X.env = ce at I4 pg pt pe ⊢
  have cL : ce.locals = s3.heap.objs.size := by subst hce; rfl
  generalize hH3 : upd H2 D (.lst []) = H3 at I3 I4 pg pt pe w0 nfp f3
  generalize hs4 : ({ s3 with heap := pushCells (s3.heap.push { cls := .type "dict", data := .dict #[] }) scope.names } : Shared) = s4 at I4 ⊢
  have st4 : tn 0 s4.heap := T.keep _ _ _ st3 fun b _ o e => by rw [← hs4]; exact pushCells_keeps _ _ _ _ (Heap.get?_push_of_some _ e)
  have I4 : Inv (blkX X s3 H3 scope ce fp) [] (wipe σ (own.map (·.2))) H3 s4 := I4.toTry _
  have stat : ∀ {σ' : L2.St} {H' : Hp} {s' : Shared}, Inv (blkX X s3 H3 scope ce fp) [] σ' H' s' → (∀ b ∈ fp, H' b = none) → ∀ b ∈ fp, FpOk (blkX X s3 H3 scope ce fp) [] H' b := fun {σ' H' s'} I' hn b hb =>
    ⟨hn b hb, (I'.ok.exf b hb).1, I'.ok.exfs b hb, .inl hb, fun x c e => (I'.ok.exf b hb).2 x c e, fun p hp => absurd (show p ∈ ([] : List (Addr × Obj)) ++ [] from hp) (by simp)⟩
  have loop : codeAny (model X.prog X.w) X.A (.compLoop (.ListComp elt [⟨tg, iter, ifs, 0⟩] scope pos) 0 (.ref it) (.ref D) ce) (compEnds (model X.prog X.w) X.A X.xe use Qf (.ref D) ce) s4 := by
    refine compLoop_any (fun n s' => ∃ i H', Inv (blkX X s3 H3 scope ce fp) [] (wipe σ (own.map (·.2))) H' s' ∧ tn i s'.heap ∧ (∀ b ∈ fp, H' b = none) ∧ W i n H') ?_ m0 ⟨0, H3, I4, st4, nfp, w0⟩
    rw [ends_err]
    rintro n s5 ⟨i, H5, I5, st5, n5, w5⟩
    rcases turn i n H5 w5 with ⟨stop, qq⟩ | ⟨go, Nx, hNx, step⟩
    · refine thnF (T.done (blkX X s3 H3 scope ce fp) rfl rfl rfl hc i [] s5 _ H5 (fun _ _ => False) I5 (stat I5 n5) st5 stop) fun r s6 ⟨hr, I6⟩ => ?_
      subst hr
      have I7 : Inv X pins σ H5 s6 := I3.call' (ch := fp) I6.os I6.base I6.hok I6.bare fun b hb => ⟨(f3 b hb).1.2.2.2.1, (f3 b hb).1.2.1, (f3 b hb).1.2.2.2.2.1, (f3 b hb).1.2.2.2.2.2⟩
      have nC : H5 s3.heap.objs.size = none := by
        have z : H5 ce.locals = none := I6.free
        rw [cL] at z
        exact z
      obtain ⟨m, hn, _⟩ := I6.loc
      have hn : s6.heap.Ns ce.locals m := hn
      rw [cL] at hn
      exact hRR D s3.heap.objs.size s6 m H5 ce cL I7 qq hn (I3.fpOk (Nat.le_refl _) nC)
    · refine thnF (T.item (blkX X s3 H3 scope ce fp) rfl rfl rfl hc i [] s5 _ H5 (fun _ _ => False) I5 (stat I5 n5) st5 go) fun r s6 ⟨u, hr, h6⟩ => ?_
      subst hr
      refine thnF h6 fun _ s7 ⟨x, H7, I7, r7, y7, st7, n7⟩ => ?_
      have I7' := I7.pinned (stat I7 n7) (T.obj _ _ st7)
      refine thn (pg.run _ s7 _ H7 x u _ I7' r7 (step x H7 y7)) fun _ s8 ⟨σ8, H8, I8, hw8, q8⟩ => ?_
      refine thn (pt.run _ s8 σ8 H8 _ I8 q8) fun b s9 ⟨H9, I9, q9⟩ => ?_
      have fin : ∀ {s' : Shared} {H' : Hp}, Inv (blkX X s3 H3 scope ce fp) ([] ++ pinsAt fp s7.heap) σ8 H' s' → Nx H' → ∃ m, m < n ∧ ∃ i H', Inv (blkX X s3 H3 scope ce fp) [] (wipe σ (own.map (·.2))) H' s' ∧ tn i s'.heap ∧ (∀ b ∈ fp, H' b = none) ∧ W i m H' := fun {s' H'} I' nx => by
        obtain ⟨m', hm, w'⟩ := hNx H' nx
        have pin' : ∀ b ∈ fp, ∀ o, s7.heap.get? b = some o → s'.heap.get? b = some o ∧ H' b = none := fun b hb o e =>
          let z := I'.pin (b, o) (List.mem_append_right _ (List.mem_append_right _ (mem_pinsAt hb e)))
          ⟨z.1, z.2.1⟩
        have hl : (wipe σ (own.map (·.2))).length = σ8.length := by rw [← hw8, wipe_length]
        refine ⟨m', hm, i + 1, H', (I'.unpinned (pins := [])).weak hl (fun j v e => ?_), T.keep _ _ _ st7 fun b hb o e => (pin' b hb o e).1, fun b hb => ?_, w'⟩
        · rw [← hw8] at e
          exact (wipe_some e).1
        · obtain ⟨o, e, _⟩ := T.obj _ _ st7 b hb
          exact (pin' b hb o e).2
      cases b with
      | false =>
        simp only [Bool.false_eq_true, if_false] at q9 ⊢
        exact fin I9 q9
      | true =>
        simp only [if_true] at q9 ⊢
        refine thn (pe.run _ s9 σ8 H9 _ I9 q9) fun z s10 ⟨yv, H10, I10, r10, acc, hD10, hz10, nx⟩ => ?_
        exact app_ok (X := blkX X s3 H3 scope ce fp) I10 hD10 hz10 r10 fun s11 I11 => fin I11 nx
  exact codeAny_compStart_list loop (T.self X.A 0 _ _ _ st4 loop)
theorem pe_lcX {elt tg iter : Expr} {ifs : List Expr} {scope : Scope} {own : List (Str × Nat)} {pos : Pos} {wi : TI} {g : TG} {tt : TT} {te : TE} (hst : X.stack = X.env :: X.outer) (hf : X.env.frame = some X.env.locals) (tk : L2N.Takes X (fun cls d _ H => E cls d H)) (hc : X.calm = true) (hN : X.N.Nodup) (hi : PI X tg iter wi) (ok : BlkOk X.N X.env.scope scope own)
    (hg : ∀ (s : Shared) (H : Hp) (C : Addr) (cl : List (Str × Addr)) (fp : List Addr), PG (blkX X s H scope (compEnvC scope cl C X.env) fp) tg g)
    (ht : ∀ (s : Shared) (H : Hp) (C : Addr) (cl : List (Str × Addr)) (fp : List Addr), Passes (L2N.CX X.prog X.w) (blkX X s H scope (compEnvC scope cl C X.env) fp) E → PTs (blkX X s H scope (compEnvC scope cl C X.env) fp) ifs tt)
    (he : ∀ (s : Shared) (H : Hp) (C : Addr) (cl : List (Str × Addr)) (fp : List Addr), Passes (L2N.CX X.prog X.w) (blkX X s H scope (compEnvC scope cl C X.env) fp) E → PE (blkX X s H scope (compEnvC scope cl C X.env) fp) elt te)
    (hs : ∀ x, foldedSetIterable iter X.env x = pure x := by intro _; rfl) : PE X (.ListComp elt [⟨tg, iter, ifs, 0⟩] scope pos) (tLc wi g tt te (own.map (·.2))) := by
  refine ⟨fun pins s σ H Q I h => ?_⟩
  rw [eval_ListComp]
  refine lcX_core hst hf tk hc hN I hi ok hg ht he hs h fun D C s' m H' ce hC I' q hn f => ⟨m, by rw [hC]; exact hn, fun h'' sb => ?_⟩
  rw [hC] at sb
  obtain ⟨f0, f1, f2, f3, f4, f5⟩ := f
  exact ⟨.ref D, H', I'.turned (t' := s'.toks) (fun b o hb e => (sb.2 b hb).trans e) f0 f1 f3 f4 f5, rfl, q⟩
theorem ps_setLcX {i : Nat} {y : Str} {py : Pos} {elt tg iter : Expr} {ifs : List Expr} {scope : Scope} {own : List (Str × Nat)} {pos spos : Pos} {wi : TI} {g : TG} {tt : TT} {te : TE} (hst : X.stack = X.env :: X.outer) (hf : X.env.frame = some X.env.locals) (tk : L2N.Takes X (fun cls d _ H => E cls d H)) (hc : X.calm = true) (hN : X.N.Nodup) (hy : X.N[i]? = some y) (hyl : X.env.scope.names.lookup y = some .local)
    (hsw : swapsWith (.ListComp elt [⟨tg, iter, ifs, 0⟩] scope pos) (some (.Name y py)) spos.line X.env = pure true) (hi : PI X tg iter wi) (ok : BlkOk X.N X.env.scope scope own)
    (hg : ∀ (s : Shared) (H : Hp) (C : Addr) (cl : List (Str × Addr)) (fp : List Addr), PG (blkX X s H scope (compEnvC scope cl C X.env) fp) tg g)
    (ht : ∀ (s : Shared) (H : Hp) (C : Addr) (cl : List (Str × Addr)) (fp : List Addr), Passes (L2N.CX X.prog X.w) (blkX X s H scope (compEnvC scope cl C X.env) fp) E → PTs (blkX X s H scope (compEnvC scope cl C X.env) fp) ifs tt)
    (he : ∀ (s : Shared) (H : Hp) (C : Addr) (cl : List (Str × Addr)) (fp : List Addr), Passes (L2N.CX X.prog X.w) (blkX X s H scope (compEnvC scope cl C X.env) fp) E → PE (blkX X s H scope (compEnvC scope cl C X.env) fp) elt te)
    (hs : ∀ x, foldedSetIterable iter X.env x = pure x := by intro _; rfl) : PS X (.Assign [.Name y py] (.ListComp elt [⟨tg, iter, ifs, 0⟩] scope pos) spos) (tAsg (tLc wi g tt te (own.map (·.2))) (gName i)) := by
  refine ⟨fun pins s σ H D I h => ?_⟩
  rw [exec_Assign_Name_used _ _ _ _ hsw]
  refine wpAny_bind (wpAny_standAt (wpAny_bind ?_))
  show wpAny _ X.A (do let _ ← comprehension (.ListComp elt [⟨tg, iter, ifs, 0⟩] scope pos) scope X.env (firstIterPos [⟨tg, iter, ifs, 0⟩] pos) (newList []) false (eval iter X.env) (some (assign (.Name y py) X.env))) _ _ s
  have h : tLc wi g tt te (own.map (·.2)) σ H (fun x H1 => gName i x σ H1 D.nx) := h
  refine wpAny_bind (thn (lcX_core (Qf := fun _ s' => SP X pins D .next s') hst hf tk hc hN I hi ok hg ht he hs h fun L C s' m H' ce hC I' q hn f => ?_) fun _ s' hq => wpAny_pure (wpAny_pure hq))
  show wpAny _ _ (assign (.Name y py) X.env (.ref L)) _ _ _
  refine wpAny_assign_Name (store_ok2 (v := V.ref L) I' hN hy (.inl hyl) rfl (fun s2 I2 ⟨a, sb, ha⟩ => ?_) (.inr hyl))
  obtain ⟨f0, f1, f2, f3, f4, f5⟩ := f
  have haC : C ≠ a := by
    rcases ha with z | z
    · rw [z]; exact f1
    · exact fun e => f4 y a z e.symm
  refine ⟨m, by rw [hC]; exact hn.sameBut sb haC, fun h3 sb3 => ?_⟩
  rw [hC] at sb3
  exact ⟨_, H', I2.turned (t' := s2.toks) (fun b o hb e => (sb3.2 b hb).trans e) f0 f1 f3 f4 f5, q⟩
end
end PX

/-! readings of a comprehension that lets exceptions out -/
namespace PX
open PySem PySem.Spec PyProof.Rows L2 LamX
def compLX (g : PyData → Res (List PyData)) (is : List Nat) (c : Rho → Res Bool) (fe : Rho → Res PyData) (ρ : Rho) : List PyData → Res (List PyData)
  | [] => .ok []
  | d :: ds => (noX (g d)).bind fun as => (c (setsD ρ is as)).bind fun k => if k = true then (fe (setsD ρ is as)).bind fun y => (compLX g is c fe ρ ds).bind fun r => .ok (y :: r) else compLX g is c fe ρ ds
def compX (src : Rho → Res (List PyData)) (g : PyData → Res (List PyData)) (is : List Nat) (own : List Nat) (c : Rho → Res Bool) (fe : Rho → Res PyData) (ρ : Rho) : Res PyData :=
  (src ρ).bind fun ds => (compLX g is c fe (wipeD ρ own) ds).bind fun r => .ok (.list r)
theorem Res.bind_bind {α β γ : Type} (r : Res α) (f : α → Res β) (g : β → Res γ) : (r.bind f).bind g = r.bind fun a => (f a).bind g := by cases r <;> rfl
section
variable {X : Cx} {T : List (Addr × Str)} {E : XK} {H0 : Hp} {pos pos' : Pos}
theorem comp_ofX {K : PySem.W.Frag} {is own : List Nat} {src : Rho → Res (List PyData)} {g : PyData → Res (List PyData)} {ct : Rho → Res Bool} {fe : Rho → Res PyData} (hsub : ∀ i ∈ is, i ∈ own) (σ : L2.St) (H : Hp) (Q : VK)
    (h : tE K T E (compX src g is own ct fe) σ H Q) : tLc (tI K T E src) (tG K is g) (tT K T E ct) (tE K T E fe) own σ H (fun v H1 => Fz (Q v) H1) := by
  obtain ⟨ρ, S, h⟩ := h
  refine ⟨ρ, S, (Post.bind (R := fun H' J ds => IterOk K T H' J ds) h).imp fun J H1 u1 ⟨ds, it, _, h3⟩ => fun D hD => ?_⟩
  generalize eR : ((compLX g is ct fe (wipeD ρ own) ds).bind fun r => Res.ok (PyData.list r)) = R
  have h3 : Post K T E (Rp K) R H1 Q := by rw [← eR]; exact h3
  obtain ⟨G, Y, w, hG, hY⟩ := it.w
  have S1 : EOk K T (L2.wipe σ own) H1 (wipeD ρ own) := (S.up u1).wipe own
  refine lc_it w (fun i H' => ∃ acc accd, H' D = some (.lst acc) ∧ Rps K H' acc accd ∧ accd.length ≤ i ∧ Up T H1 H' ∧ ((compLX g is ct fe (wipeD ρ own) (ds.drop i)).bind fun r => Res.ok (PyData.list (accd ++ r))) = R)
    ⟨[], [], upd_same, .nil, Nat.le_refl _, Up.new hD, eR⟩ (fun i H' _ ⟨_, _, _, _, _, u, _⟩ => hG H' u.evo) ?_ ?_
  · rintro i x H2 H3 hi ⟨acc, accd, hacc, ra, la, u2, er⟩ y
    obtain ⟨u3, d, hd, rd⟩ := hY i H2 x H3 hi u2.evo y
    have ed : ds.drop i = d :: ds.drop (i + 1) := by
      rw [List.drop_eq_getElem_cons hi]
      rw [List.getElem?_eq_getElem hi] at hd
      rw [Option.some.inj hd]
    rw [ed] at er
    unfold compLX at er
    have u13 : Up T H1 H3 := u2.trans u3
    cases eg : g d with
    | stuck => rw [eg] at er; rw [← er] at h3; exact False.elim h3
    | exc c => rw [eg] at er; rw [← er] at h3; exact False.elim h3
    | ok as =>
      rw [eg] at er
      refine ⟨d, as, rd, eg, fun ws hw => ⟨by rw [wipe_sets is ws _ own hsub, wipe_wipe], ?_⟩⟩
      have S3 : EOk K T (setsV (L2.wipe σ own) is ws) H3 (setsD (wipeD ρ own) is as) := ((S1.up u2).up u3).sets hw
      refine ⟨_, S3, ?_⟩
      have er : (((ct (setsD (wipeD ρ own) is as)).bind fun k => if k = true then (fe (setsD (wipeD ρ own) is as)).bind fun y => (compLX g is ct fe (wipeD ρ own) (ds.drop (i + 1))).bind fun r => .ok (y :: r) else compLX g is ct fe (wipeD ρ own) (ds.drop (i + 1))).bind fun r => Res.ok (PyData.list (accd ++ r))) = R := er
      cases ec : ct (setsD (wipeD ρ own) is as) with
      | stuck => rw [ec] at er; rw [← er] at h3; exact False.elim h3
      | exc c =>
        rw [ec] at er
        rw [← er] at h3
        exact fun H4 u4 => h3 H4 (u13.trans u4)
      | ok k =>
        rw [ec] at er
        intro k' H4 u4 ek
        subst ek
        have h24 : Up T H2 H4 := u3.trans u4
        have hacc4 : H4 D = some (.lst acc) := h24.1 D _ hacc (fun ps z => by cases z)
        have ra4 : Rps K H4 acc accd := ra.up h24
        cases k' with
        | false =>
          have er : ((compLX g is ct fe (wipeD ρ own) (ds.drop (i + 1))).bind fun r => Res.ok (PyData.list (accd ++ r))) = R := er
          exact iteF ⟨acc, accd, hacc4, ra4, Nat.le_succ_of_le la, u2.trans h24, er⟩
        | true =>
          refine iteT ⟨_, S3.up u4, ?_⟩
          have er : (((fe (setsD (wipeD ρ own) is as)).bind fun y => (compLX g is ct fe (wipeD ρ own) (ds.drop (i + 1))).bind fun r => .ok (y :: r)).bind fun r => Res.ok (PyData.list (accd ++ r))) = R := er
          cases ef : fe (setsD (wipeD ρ own) is as) with
          | stuck => rw [ef] at er; rw [← er] at h3; exact False.elim h3
          | exc c =>
            rw [ef] at er
            rw [← er] at h3
            exact fun H5 u5 => h3 H5 ((u13.trans u4).trans u5)
          | ok yd =>
            rw [ef] at er
            have er : (((compLX g is ct fe (wipeD ρ own) (ds.drop (i + 1))).bind fun r => .ok (yd :: r)).bind fun r => Res.ok (PyData.list (accd ++ r))) = R := er
            rw [Res.bind_bind] at er
            intro yv H5 u5 ry
            have h25 := h24.trans u5
            have hacc5 : H5 D = some (.lst acc) := h25.1 D _ hacc (fun ps z => by cases z)
            have u15 := u2.trans h25
            have ev : Evo T H5 (upd H5 D (.lst (acc ++ [yv]))) := Evo.put ⟨acc, hacc5⟩
            refine ⟨acc, hacc5, ?_, acc ++ [yv], accd ++ [yd], upd_same, ((ra.up h25).append (.cons ry .nil)).evo ev, ?_, Up.put u15 (.of_none hD) ⟨acc, hacc5⟩, ?_⟩
            · rw [ra.len]
              have := it.z
              omega
            · rw [List.length_append, List.length_singleton]
              omega
            · rw [← er]
              congr 1
              funext r
              simp
  · rintro H2 ⟨acc, accd, hacc, ra, la, u2, er⟩
    rw [List.drop_eq_nil_of_le (Nat.le_refl _)] at er
    have er : Res.ok (PyData.list (accd ++ [])) = R := er
    rw [List.append_nil] at er
    rw [← er] at h3
    refine .inr ⟨D, acc, hacc, fun o => ?_⟩
    have u12 : Up T H1 (upd H2 D (.frz o (.lst acc))) := Up.put u2 (.of_none hD) ⟨acc, hacc⟩
    have ev : Evo T H2 (upd H2 D (.frz o (.lst acc))) := Evo.put ⟨acc, hacc⟩
    exact h3 (.ref D) _ u12 (.lst (.inl ⟨o, upd_same⟩) (ra.evo ev) (Nat.le_trans la it.z))
theorem vts_oneX {c : Expr} {t : Rho → Res Bool} (h : VT X T E c t) : PTs X [c] (tT X.K T E t) := pts_one h
theorem v_lcX {elt tg iter : Expr} {ifs : List Expr} {scope : Scope} {own : List (Str × Nat)} {pos : Pos} {is : List Nat} {src : Rho → Res (List PyData)} {g : PyData → Res (List PyData)} {ct : Rho → Res Bool} {fe : Rho → Res PyData}
    (tk : L2N.Takes X (fun cls d _ H => E cls d H)) (hc : X.calm = true) (hN : X.N.Nodup) (hi : VI X T E tg iter src) (ok : BlkOk X.N X.env.scope scope own) (hsub : ∀ i ∈ is, i ∈ own.map (·.2))
    (hg : ∀ (s : Shared) (H : Hp) (C : Addr) (cl : List (Str × Addr)) (fp : List Addr), VG (blkX X s H scope (compEnvC scope cl C X.env) fp) tg is g)
    (ht : ∀ (s : Shared) (H : Hp) (C : Addr) (cl : List (Str × Addr)) (fp : List Addr), Passes (L2N.CX X.prog X.w) (blkX X s H scope (compEnvC scope cl C X.env) fp) E → PTs (blkX X s H scope (compEnvC scope cl C X.env) fp) ifs (tT X.K T E ct))
    (he : ∀ (s : Shared) (H : Hp) (C : Addr) (cl : List (Str × Addr)) (fp : List Addr), Passes (L2N.CX X.prog X.w) (blkX X s H scope (compEnvC scope cl C X.env) fp) E → VE (blkX X s H scope (compEnvC scope cl C X.env) fp) T E elt fe)
    (hst : X.stack = X.env :: X.outer := by rfl) (hf : X.env.frame = some X.env.locals := by rfl) (hs : ∀ x, foldedSetIterable iter X.env x = pure x := by intro _; rfl) :
    VE X T E (.ListComp elt [⟨tg, iter, ifs, 0⟩] scope pos) (compX src g is (own.map (·.2)) ct fe) :=
  PE.rd (PE.fz (pe_lcX hst hf tk hc hN hi ok (fun s H C cl fp => (hg s H C cl fp).pg) ht (te := tE X.K T E fe) he hs)) fun σ H Q h => comp_ofX hsub σ H Q h
theorem vs_setLcX (i : Nat) {x : Str} {elt tg iter : Expr} {ifs : List Expr} {scope : Scope} {own : List (Str × Nat)} {is : List Nat} {src : Rho → Res (List PyData)} {g : PyData → Res (List PyData)} {ct : Rho → Res Bool} {fe : Rho → Res PyData} {cpos : Pos}
    (tk : L2N.Takes X (fun cls d _ H => E cls d H)) (hc : X.calm = true) (hN : X.N.Nodup) (hi : VI X T E tg iter src) (ok : BlkOk X.N X.env.scope scope own) (hsub : ∀ i ∈ is, i ∈ own.map (·.2))
    (hg : ∀ (s : Shared) (H : Hp) (C : Addr) (cl : List (Str × Addr)) (fp : List Addr), VG (blkX X s H scope (compEnvC scope cl C X.env) fp) tg is g)
    (ht : ∀ (s : Shared) (H : Hp) (C : Addr) (cl : List (Str × Addr)) (fp : List Addr), Passes (L2N.CX X.prog X.w) (blkX X s H scope (compEnvC scope cl C X.env) fp) E → PTs (blkX X s H scope (compEnvC scope cl C X.env) fp) ifs (tT X.K T E ct))
    (he : ∀ (s : Shared) (H : Hp) (C : Addr) (cl : List (Str × Addr)) (fp : List Addr), Passes (L2N.CX X.prog X.w) (blkX X s H scope (compEnvC scope cl C X.env) fp) E → VE (blkX X s H scope (compEnvC scope cl C X.env) fp) T E elt fe)
    (hsw : swapsWith (.ListComp elt [⟨tg, iter, ifs, 0⟩] scope cpos) (some (.Name x pos')) pos.line X.env = pure true) (hiN : X.N[i]? = some x := by rfl) (hyl : X.env.scope.names.lookup x = some .local := by rfl)
    (hst : X.stack = X.env :: X.outer := by rfl) (hf : X.env.frame = some X.env.locals := by rfl) (hs : ∀ x, foldedSetIterable iter X.env x = pure x := by intro _; rfl) :
    VS X T E H0 (.Assign [.Name x pos'] (.ListComp elt [⟨tg, iter, ifs, 0⟩] scope cpos) pos) (fun ρ => setF i (compX src g is (own.map (·.2)) ct fe ρ) ρ) := by
  refine PS.rd (PS.fz (ps_setLcX hst hf tk hc hN hiN hyl hsw hi ok (g := tG X.K is g) (fun s H C cl fp => (hg s H C cl fp).pg) ht (te := tE X.K T E fe) he hs)) fun D σ H ⟨ρ, S, h⟩ => ?_
  exact comp_ofX hsub σ H (fun v H1 => D.nx (σ.set i (some v)) H1) ⟨ρ, S.e, (PostS.bind S h).imp fun v H1 u ⟨d, r, _, S1, q⟩ => q _ H1 (S1.set r) (Evo.refl H1)⟩
end
end PX

namespace PX
open PySem PySem.Spec PyProof.Rows L2 LamX
def F_is_count : Rho → Res Fl := (fun (ρ : Rho) => ((andR (((rget ρ 0).bind fun d => .ok (.bool (isInt d)))) ((andR ((notR (((rget ρ 0).bind fun d => .ok (.bool (isBool d)))))) ((chR leI leI (rget ρ 1) (rget ρ 0) (rget ρ 2))))))).bind fun d => .ok (.rt d))
def g_is_count : List PyData → Res PyData := runF 3 F_is_count
def F_is_rising : Rho → Res Fl := (fun (ρ : Rho) => (iteR ((orT (((((((rget ρ 0).bind fun d => .ok (.bool (isTup d)))).bind toB)).bind fun b => .ok (!b))) ((((((((((compD (fun ρ => ((rget ρ 0).bind itD)) (fun d => .ok [d]) [2] (([("one", 2)] : List (Str × Nat)).map (·.2)) cYes (fun ρ => ((((rget ρ 2).bind fun d => ((((.ok (.int 0) : Res PyData)).bind fun d => (((((rget ρ 1).bind fun d => ((.ok (.int 1) : Res PyData)).bind fun d' => subD d d')).bind fun d => ((.ok [] : Res (List PyData))).bind fun ds => .ok (d :: ds))).bind fun ds => .ok (d :: ds))).bind fun ds => .ok (d :: ds))).bind g_is_count)) ρ)).bind fun d => ((.ok [] : Res (List PyData))).bind fun ds => .ok (d :: ds))).bind allD)).bind toB)).bind fun b => .ok (!b))))) ((fun (ρ : Rho) => ((.ok (.bool false) : Res PyData)).bind fun d => .ok (.rt d)) ρ) ((fun (ρ : Rho) => .ok (.nx ρ)) ρ)).bind (Fl.go (fun (ρ : Rho) => ((((((compD (fun ρ => (((((rget ρ 0).bind fun d => ((.ok none : Res (Option Int))).bind fun l => ((((((.ok (.int 1) : Res PyData)).bind negD)).bind fun d => (toI d).bind fun i => .ok (some i))).bind fun h => sliceD l h d)).bind fun d => ((((rget ρ 0).bind fun d => ((((.ok (.int 1) : Res PyData)).bind fun d => (toI d).bind fun i => .ok (some i))).bind fun l => ((.ok none : Res (Option Int))).bind fun h => sliceD l h d)).bind fun d' => .ok [d']).bind fun ds => .ok (d :: ds)).bind zipD)) (gT (gC (fun d => .ok [d]) (gC (fun d => .ok [d]) gN))) ([2] ++ ([3] ++ [])) (([("one", 2), ("other", 3)] : List (Str × Nat)).map (·.2)) cYes (fun ρ => ((rget ρ 2).bind fun d => (rget ρ 3).bind fun d' => ltI d d')) ρ)).bind fun d => ((.ok [] : Res (List PyData))).bind fun ds => .ok (d :: ds))).bind allD)).bind fun d => .ok (.rt d))))
def g_is_rising : List PyData → Res PyData := runF 4 F_is_rising
def F_is_spot : Rho → Res Fl := (fun (ρ : Rho) => (iteR ((orT (((((((rget ρ 0).bind fun d => .ok (.bool (isTup d)))).bind toB)).bind fun b => .ok (!b))) ((orT (((((((rget ρ 0).bind fun d => .ok [d]).bind lenD)).bind fun d => ((.ok (.int 3) : Res PyData)).bind fun d' => neD d d').bind toB)) (((((((((((rget ρ 0).bind fun d => ((.ok (.int 0) : Res PyData)).bind fun d' => idxD d d')).bind fun d => ((((.ok (.int 0) : Res PyData)).bind fun d => ((((.ok (.int 99) : Res PyData)).bind fun d => ((.ok [] : Res (List PyData))).bind fun ds => .ok (d :: ds))).bind fun ds => .ok (d :: ds))).bind fun ds => .ok (d :: ds))).bind g_is_count)).bind toB)).bind fun b => .ok (!b))))))) ((fun (ρ : Rho) => ((.ok (.bool false) : Res PyData)).bind fun d => .ok (.rt d)) ρ) ((fun (ρ : Rho) => .ok (.nx ρ)) ρ)).bind (Fl.go (fun (ρ : Rho) => ((andR (((((((rget ρ 0).bind fun d => ((.ok (.int 1) : Res PyData)).bind fun d' => idxD d d')).bind fun d => ((((.ok (.int 1) : Res PyData)).bind fun d => ((((.ok (.int 20) : Res PyData)).bind fun d => ((.ok [] : Res (List PyData))).bind fun ds => .ok (d :: ds))).bind fun ds => .ok (d :: ds))).bind fun ds => .ok (d :: ds))).bind g_is_count)) (((((((rget ρ 0).bind fun d => ((.ok (.int 2) : Res PyData)).bind fun d' => idxD d d')).bind fun d => (((rget ρ 1).bind fun d => ((.ok [] : Res (List PyData))).bind fun ds => .ok (d :: ds))).bind fun ds => .ok (d :: ds))).bind g_is_rising)))).bind fun d => .ok (.rt d))))
def g_is_spot : List PyData → Res PyData := runF 2 F_is_spot
def F_is_kicker : Rho → Res Fl := (fun (ρ : Rho) => (iteR ((orT (((((((rget ρ 0).bind fun d => .ok (.bool (isTup d)))).bind toB)).bind fun b => .ok (!b))) (((((((rget ρ 0).bind fun d => .ok [d]).bind lenD)).bind fun d => ((.ok (.int 2) : Res PyData)).bind fun d' => neD d d').bind toB)))) ((fun (ρ : Rho) => ((.ok (.bool false) : Res PyData)).bind fun d => .ok (.rt d)) ρ) ((fun (ρ : Rho) => .ok (.nx ρ)) ρ)).bind (Fl.go (fun (ρ : Rho) => ((andR (((((((rget ρ 0).bind fun d => ((.ok (.int 0) : Res PyData)).bind fun d' => idxD d d')).bind fun d => ((((.ok (.int 0) : Res PyData)).bind fun d => ((((.ok (.int 99) : Res PyData)).bind fun d => ((.ok [] : Res (List PyData))).bind fun ds => .ok (d :: ds))).bind fun ds => .ok (d :: ds))).bind fun ds => .ok (d :: ds))).bind g_is_count)) (((((((rget ρ 0).bind fun d => ((.ok (.int 1) : Res PyData)).bind fun d' => idxD d d')).bind fun d => ((((.ok (.int 0) : Res PyData)).bind fun d => ((((.ok (.int 20) : Res PyData)).bind fun d => ((.ok [] : Res (List PyData))).bind fun ds => .ok (d :: ds))).bind fun ds => .ok (d :: ds))).bind fun ds => .ok (d :: ds))).bind g_is_count)))).bind fun d => .ok (.rt d))))
def g_is_kicker : List PyData → Res PyData := runF 1 F_is_kicker
def F_is_belt : Rho → Res Fl := (fun (ρ : Rho) => (iteR ((orT (((((((rget ρ 0).bind fun d => .ok (.bool (isTup d)))).bind toB)).bind fun b => .ok (!b))) ((orT (((((((rget ρ 0).bind fun d => .ok [d]).bind lenD)).bind fun d => ((.ok (.int 3) : Res PyData)).bind fun d' => neD d d').bind toB)) ((((((((((compD (fun ρ => ((rget ρ 0).bind itD)) (fun d => .ok [d]) [7] (([("part", 7)] : List (Str × Nat)).map (·.2)) cYes (fun ρ => ((rget ρ 7).bind fun d => .ok (.bool (isTup d)))) ρ)).bind fun d => ((.ok [] : Res (List PyData))).bind fun ds => .ok (d :: ds))).bind allD)).bind toB)).bind fun b => .ok (!b))))))) ((fun (ρ : Rho) => ((.ok (.bool false) : Res PyData)).bind fun d => .ok (.rt d)) ρ) ((fun (ρ : Rho) => .ok (.nx ρ)) ρ)).bind (Fl.go (fun (ρ : Rho) => ((rget ρ 0).bind fun d => (noX ((gT (gC (fun d => .ok [d]) (gC (fun d => .ok [d]) (gC (fun d => .ok [d]) gN)))) d)).bind fun as => .ok (.nx (setsD ρ ([1] ++ ([2] ++ ([3] ++ []))) as))).bind (Fl.go (fun (ρ : Rho) => (iteR ((orT (((((chR leI leI ((.ok (.int 1) : Res PyData)) ((((rget ρ 1).bind fun d => .ok [d]).bind lenD)) ((.ok (.int 6) : Res PyData))).bind toB)).bind fun b => .ok (!b))) ((orT (((((((rget ρ 2).bind fun d => .ok [d]).bind lenD)).bind fun d => ((.ok (.int 8) : Res PyData)).bind fun d' => gtI d d').bind toB)) (((((((rget ρ 3).bind fun d => .ok [d]).bind lenD)).bind fun d => ((.ok (.int 3) : Res PyData)).bind fun d' => gtI d d').bind toB)))))) ((fun (ρ : Rho) => ((.ok (.bool false) : Res PyData)).bind fun d => .ok (.rt d)) ρ) ((fun (ρ : Rho) => .ok (.nx ρ)) ρ)).bind (Fl.go (fun (ρ : Rho) => (iteR ((((((((((compD (fun ρ => ((rget ρ 1).bind itD)) (fun d => .ok [d]) [4] (([("place", 4)] : List (Str × Nat)).map (·.2)) cYes (fun ρ => ((((rget ρ 4).bind fun d => ((((.ok (.int 0) : Res PyData)).bind fun d => ((((.ok (.int 99) : Res PyData)).bind fun d => ((.ok [] : Res (List PyData))).bind fun ds => .ok (d :: ds))).bind fun ds => .ok (d :: ds))).bind fun ds => .ok (d :: ds))).bind g_is_count)) ρ)).bind fun d => ((.ok [] : Res (List PyData))).bind fun ds => .ok (d :: ds))).bind allD)).bind toB)).bind fun b => .ok (!b))) ((fun (ρ : Rho) => ((.ok (.bool false) : Res PyData)).bind fun d => .ok (.rt d)) ρ) ((fun (ρ : Rho) => .ok (.nx ρ)) ρ)).bind (Fl.go (fun (ρ : Rho) => ((andR ((((((compD (fun ρ => ((rget ρ 2).bind itD)) (fun d => .ok [d]) [5] (([("spot", 5)] : List (Str × Nat)).map (·.2)) cYes (fun ρ => ((((rget ρ 5).bind fun d => ((((((rget ρ 1).bind fun d => .ok [d]).bind lenD)).bind fun d => ((.ok [] : Res (List PyData))).bind fun ds => .ok (d :: ds))).bind fun ds => .ok (d :: ds))).bind g_is_spot)) ρ)).bind fun d => ((.ok [] : Res (List PyData))).bind fun ds => .ok (d :: ds))).bind allD)) ((((((compD (fun ρ => ((rget ρ 3).bind itD)) (fun d => .ok [d]) [6] (([("one", 6)] : List (Str × Nat)).map (·.2)) cYes (fun ρ => ((((rget ρ 6).bind fun d => ((.ok [] : Res (List PyData))).bind fun ds => .ok (d :: ds))).bind g_is_kicker)) ρ)).bind fun d => ((.ok [] : Res (List PyData))).bind fun ds => .ok (d :: ds))).bind allD)))).bind fun d => .ok (.rt d))))))))))
def g_is_belt : List PyData → Res PyData := runF 8 F_is_belt
def F_need_belt : Rho → Res Fl := (fun (ρ : Rho) => iteR (((((((((rget ρ 0).bind fun d => ((.ok [] : Res (List PyData))).bind fun ds => .ok (d :: ds))).bind g_is_belt)).bind toB)).bind fun b => .ok (!b))) ((fun (ρ : Rho) => .exc "BadBelt") ρ) ((fun (ρ : Rho) => .ok (.nx ρ)) ρ))
def g_need_belt : List PyData → Res PyData := runF 1 F_need_belt
def F_need_plan : Rho → Res Fl := (fun (ρ : Rho) => (iteR ((orT (((((((rget ρ 1).bind fun d => .ok (.bool (isTup d)))).bind toB)).bind fun b => .ok (!b))) (((((((rget ρ 1).bind fun d => .ok [d]).bind lenD)).bind fun d => ((.ok (.int 2) : Res PyData)).bind fun d' => neD d d').bind toB)))) ((fun (ρ : Rho) => .exc "BadPlan") ρ) ((fun (ρ : Rho) => .ok (.nx ρ)) ρ)).bind (Fl.go (fun (ρ : Rho) => iteR ((orT (((((((((((rget ρ 1).bind fun d => ((.ok (.int 0) : Res PyData)).bind fun d' => idxD d d')).bind fun d => ((((((((rget ρ 0).bind fun d => ((.ok (.int 1) : Res PyData)).bind fun d' => idxD d d')).bind fun d => .ok [d]).bind lenD)).bind fun d => ((.ok [] : Res (List PyData))).bind fun ds => .ok (d :: ds))).bind fun ds => .ok (d :: ds))).bind g_is_rising)).bind toB)).bind fun b => .ok (!b))) (((((((((((rget ρ 1).bind fun d => ((.ok (.int 1) : Res PyData)).bind fun d' => idxD d d')).bind fun d => ((((((((rget ρ 0).bind fun d => ((.ok (.int 2) : Res PyData)).bind fun d' => idxD d d')).bind fun d => .ok [d]).bind lenD)).bind fun d => ((.ok [] : Res (List PyData))).bind fun ds => .ok (d :: ds))).bind fun ds => .ok (d :: ds))).bind g_is_rising)).bind toB)).bind fun b => .ok (!b))))) ((fun (ρ : Rho) => .exc "BadPlan") ρ) ((fun (ρ : Rho) => .ok (.nx ρ)) ρ))))
def g_need_plan : List PyData → Res PyData := runF 2 F_need_plan
def F_cost_of : Rho → Res Fl := (fun (ρ : Rho) => ((((((((compD (fun ρ => ((((rget ρ 1).bind fun d => ((.ok (.int 0) : Res PyData)).bind fun d' => idxD d d')).bind itD)) (fun d => .ok [d]) [2] (([("spot", 2)] : List (Str × Nat)).map (·.2)) cYes (fun ρ => ((((((rget ρ 0).bind fun d => ((.ok (.int 1) : Res PyData)).bind fun d' => idxD d d')).bind fun d => (rget ρ 2).bind fun d' => idxD d d')).bind fun d => ((.ok (.int 1) : Res PyData)).bind fun d' => idxD d d')) ρ)).bind fun d => ((.ok [] : Res (List PyData))).bind fun ds => .ok (d :: ds))).bind sumD)).bind fun d => ((((((compD (fun ρ => ((((rget ρ 1).bind fun d => ((.ok (.int 1) : Res PyData)).bind fun d' => idxD d d')).bind itD)) (fun d => .ok [d]) [3] (([("own", 3)] : List (Str × Nat)).map (·.2)) cYes (fun ρ => ((((((rget ρ 0).bind fun d => ((.ok (.int 2) : Res PyData)).bind fun d' => idxD d d')).bind fun d => (rget ρ 3).bind fun d' => idxD d d')).bind fun d => ((.ok (.int 1) : Res PyData)).bind fun d' => idxD d d')) ρ)).bind fun d => ((.ok [] : Res (List PyData))).bind fun ds => .ok (d :: ds))).bind sumD)).bind fun d' => addD d d')).bind fun d => .ok (.rt d))
def g_cost_of : List PyData → Res PyData := runF 4 F_cost_of
def F_cost : Rho → Res Fl := (fun (ρ : Rho) => ((((((rget ρ 0).bind fun d => ((.ok [] : Res (List PyData))).bind fun ds => .ok (d :: ds))).bind g_need_belt)).bind fun _ => .ok (.nx ρ)).bind (Fl.go (fun (ρ : Rho) => ((((((rget ρ 0).bind fun d => (((rget ρ 1).bind fun d => ((.ok [] : Res (List PyData))).bind fun ds => .ok (d :: ds))).bind fun ds => .ok (d :: ds))).bind g_need_plan)).bind fun _ => .ok (.nx ρ)).bind (Fl.go (fun (ρ : Rho) => (((((rget ρ 0).bind fun d => (((rget ρ 1).bind fun d => ((.ok [] : Res (List PyData))).bind fun ds => .ok (d :: ds))).bind fun ds => .ok (d :: ds))).bind g_cost_of)).bind fun d => .ok (.rt d))))))
def g_cost : List PyData → Res PyData := runF 2 F_cost
def F_sees : Rho → Res Fl := (fun (ρ : Rho) => ((((((rget ρ 0).bind fun d => ((.ok (.int 1) : Res PyData)).bind fun d' => idxD d d')).bind fun d => (rget ρ 1).bind fun d' => idxD d d')).bind fun d => (noX ((gT (gC (fun d => .ok [d]) (gC (fun d => .ok [d]) (gC (fun d => .ok [d]) gN)))) d)).bind fun as => .ok (.nx (setsD ρ ([3] ++ ([4] ++ ([5] ++ []))) as))).bind (Fl.go (fun (ρ : Rho) => ((andR (((rget ρ 2).bind fun d => (rget ρ 5).bind fun d' => inD d d')) (((((((rget ρ 0).bind fun d => ((.ok (.int 0) : Res PyData)).bind fun d' => idxD d d')).bind fun d => (rget ρ 2).bind fun d' => idxD d d')).bind fun d => (rget ρ 3).bind fun d' => leI d d')))).bind fun d => .ok (.rt d))))
def g_sees : List PyData → Res PyData := runF 6 F_sees
def F_seen : Rho → Res Fl := (fun (ρ : Rho) => ((((((rget ρ 0).bind fun d => ((.ok [] : Res (List PyData))).bind fun ds => .ok (d :: ds))).bind g_need_belt)).bind fun _ => .ok (.nx ρ)).bind (Fl.go (fun (ρ : Rho) => (iteR (((((((((rget ρ 1).bind fun d => ((((.ok (.int 0) : Res PyData)).bind fun d => ((((((((((rget ρ 0).bind fun d => ((.ok (.int 1) : Res PyData)).bind fun d' => idxD d d')).bind fun d => .ok [d]).bind lenD)).bind fun d => ((.ok (.int 1) : Res PyData)).bind fun d' => subD d d')).bind fun d => ((.ok [] : Res (List PyData))).bind fun ds => .ok (d :: ds))).bind fun ds => .ok (d :: ds))).bind fun ds => .ok (d :: ds))).bind g_is_count)).bind toB)).bind fun b => .ok (!b))) ((fun (ρ : Rho) => .exc "BadBelt") ρ) ((fun (ρ : Rho) => .ok (.nx ρ)) ρ)).bind (Fl.go (fun (ρ : Rho) => ((compD (fun ρ => (((((((rget ρ 0).bind fun d => ((.ok (.int 0) : Res PyData)).bind fun d' => idxD d d')).bind fun d => .ok [d]).bind lenD)).bind rngL)) (fun d => .ok [d]) [2] (([("fault", 2)] : List (Str × Nat)).map (·.2)) (fun (ρ : Rho) => ((((((rget ρ 0).bind fun d => (((rget ρ 1).bind fun d => (((rget ρ 2).bind fun d => ((.ok [] : Res (List PyData))).bind fun ds => .ok (d :: ds))).bind fun ds => .ok (d :: ds))).bind fun ds => .ok (d :: ds))).bind g_sees)).bind toB)) (fun ρ => rget ρ 2) ρ)).bind fun d => .ok (.rt d))))))
def g_seen : List PyData → Res PyData := runF 3 F_seen
def F_first_kicker : Rho → Res Fl := (fun (ρ : Rho) => (setF 3 (compD (fun ρ => ((rget ρ 1).bind itD)) (fun d => .ok [d]) [4] (([("own", 4)] : List (Str × Nat)).map (·.2)) (fun (ρ : Rho) => (((((((((rget ρ 0).bind fun d => ((.ok (.int 2) : Res PyData)).bind fun d' => idxD d d')).bind fun d => (rget ρ 4).bind fun d' => idxD d d')).bind fun d => ((.ok (.int 0) : Res PyData)).bind fun d' => idxD d d')).bind fun d => (rget ρ 2).bind fun d' => geI d d').bind toB)) (fun ρ => ((((((((((rget ρ 0).bind fun d => ((.ok (.int 2) : Res PyData)).bind fun d' => idxD d d')).bind fun d => (rget ρ 4).bind fun d' => idxD d d')).bind fun d => ((.ok (.int 0) : Res PyData)).bind fun d' => idxD d d')).bind fun d => (((rget ρ 4).bind fun d => ((.ok [] : Res (List PyData))).bind fun ds => .ok (d :: ds))).bind fun ds => .ok (d :: ds))).bind fun ds => (.ok (.tuple ds) : Res PyData))) ρ) ρ).bind (Fl.go (fun (ρ : Rho) => ((iteR ((((rget ρ 3).bind fun d => ((((.ok [] : Res (List PyData))).bind fun ds => (.ok (.list ds) : Res PyData))).bind fun d' => neD d d').bind toB)) (((((((rget ρ 3).bind fun d => ((.ok [] : Res (List PyData))).bind fun ds => .ok (d :: ds))).bind minP)).bind fun d => ((.ok (.int 1) : Res PyData)).bind fun d' => idxD d d')) ((.ok .none : Res PyData)))).bind fun d => .ok (.rt d))))
def g_first_kicker : List PyData → Res PyData := runF 5 F_first_kicker
def F_useful : Rho → Res Fl := (fun (ρ : Rho) => (((.ok [] : Res (List PyData))).bind fun ds => .ok (.nx (ρ.set 4 (some (.mu ds))))).bind (Fl.go (fun (ρ : Rho) => ((((rget ρ 1).bind itD)).bind fun ds => forL (fun d => .ok [d]) [5] [5] (fun (ρ : Rho) => iteR ((andT (((((((rget ρ 0).bind fun d => (((rget ρ 5).bind fun d => (((rget ρ 3).bind fun d => ((.ok [] : Res (List PyData))).bind fun ds => .ok (d :: ds))).bind fun ds => .ok (d :: ds))).bind fun ds => .ok (d :: ds))).bind g_sees)).bind toB)) (((((((rget ρ 0).bind fun d => (((rget ρ 2).bind fun d => (((((((((rget ρ 0).bind fun d => ((.ok (.int 1) : Res PyData)).bind fun d' => idxD d d')).bind fun d => (rget ρ 5).bind fun d' => idxD d d')).bind fun d => ((.ok (.int 0) : Res PyData)).bind fun d' => idxD d d')).bind fun d => ((.ok [] : Res (List PyData))).bind fun ds => .ok (d :: ds))).bind fun ds => .ok (d :: ds))).bind fun ds => .ok (d :: ds))).bind g_first_kicker)).bind fun d => .ok (!isNone d))))) ((fun (ρ : Rho) => appF 4 (rget ρ 5) ρ) ρ) ((fun (ρ : Rho) => .ok (.nx ρ)) ρ)) ds (wipeD ρ [5])).bind (Fl.go (fun (ρ : Rho) => (frzS 4 (fun (ρ : Rho) => (rget ρ 4).bind fun d => .ok (.rt d))) (wipeD ρ [5]))))))
def g_useful : List PyData → Res PyData := runF 6 F_useful
def F_need_count : Rho → Res Fl := (fun (ρ : Rho) => iteR (((((((((rget ρ 0).bind fun d => ((((.ok (.int 0) : Res PyData)).bind fun d => ((((.ok (.int 8) : Res PyData)).bind fun d => ((.ok [] : Res (List PyData))).bind fun ds => .ok (d :: ds))).bind fun ds => .ok (d :: ds))).bind fun ds => .ok (d :: ds))).bind g_is_count)).bind toB)).bind fun b => .ok (!b))) ((fun (ρ : Rho) => .exc "BadNumber") ρ) ((fun (ρ : Rho) => .ok (.nx ρ)) ρ))
def g_need_count : List PyData → Res PyData := runF 1 F_need_count
def F_least_seen : Rho → Res Fl := (fun (ρ : Rho) => ((((((compD (fun ρ => (((((((rget ρ 0).bind fun d => ((.ok (.int 0) : Res PyData)).bind fun d' => idxD d d')).bind fun d => .ok [d]).bind lenD)).bind rngL)) (fun d => .ok [d]) [2] (([("fault", 2)] : List (Str × Nat)).map (·.2)) cYes (fun ρ => (((((((rget ρ 0).bind fun d => (((((rget ρ 1).bind fun d => ((.ok (.int 0) : Res PyData)).bind fun d' => idxD d d')).bind fun d => (((((rget ρ 1).bind fun d => ((.ok (.int 1) : Res PyData)).bind fun d' => idxD d d')).bind fun d => (((rget ρ 2).bind fun d => ((.ok [] : Res (List PyData))).bind fun ds => .ok (d :: ds))).bind fun ds => .ok (d :: ds))).bind fun ds => .ok (d :: ds))).bind fun ds => .ok (d :: ds))).bind g_useful)).bind fun d => .ok [d]).bind lenD)) ρ)).bind fun d => ((.ok [] : Res (List PyData))).bind fun ds => .ok (d :: ds))).bind minD)).bind fun d => .ok (.rt d))
def g_least_seen : List PyData → Res PyData := runF 3 F_least_seen
def F_borne : Rho → Res Fl := (fun (ρ : Rho) => ((((((rget ρ 0).bind fun d => ((.ok [] : Res (List PyData))).bind fun ds => .ok (d :: ds))).bind g_need_belt)).bind fun _ => .ok (.nx ρ)).bind (Fl.go (fun (ρ : Rho) => ((((((rget ρ 0).bind fun d => (((rget ρ 1).bind fun d => ((.ok [] : Res (List PyData))).bind fun ds => .ok (d :: ds))).bind fun ds => .ok (d :: ds))).bind g_need_plan)).bind fun _ => .ok (.nx ρ)).bind (Fl.go (fun (ρ : Rho) => (setF 2 (((((rget ρ 0).bind fun d => (((rget ρ 1).bind fun d => ((.ok [] : Res (List PyData))).bind fun ds => .ok (d :: ds))).bind fun ds => .ok (d :: ds))).bind g_least_seen)) ρ).bind (Fl.go (fun (ρ : Rho) => ((iteR ((((rget ρ 2).bind fun d => ((.ok (.int 0) : Res PyData)).bind fun d' => gtI d d').bind toB)) (((rget ρ 2).bind fun d => ((.ok (.int 1) : Res PyData)).bind fun d' => subD d d')) ((.ok .none : Res PyData)))).bind fun d => .ok (.rt d))))))))
def g_borne : List PyData → Res PyData := runF 3 F_borne
def F_all_rows : Rho → Res Fl := (fun (ρ : Rho) => (setF 1 ((((((((.ok [] : Res (List PyData))).bind fun ds => (.ok (.tuple ds) : Res PyData))).bind fun d => ((.ok [] : Res (List PyData))).bind fun ds => .ok (d :: ds))).bind fun ds => (.ok (.list ds) : Res PyData))) ρ).bind (Fl.go (fun (ρ : Rho) => ((((rget ρ 0).bind rngL)).bind fun ds => forL (fun d => .ok [d]) [2] [2] (fun (ρ : Rho) => setF 1 (((rget ρ 1).bind fun d => ((compD (fun ρ => ((rget ρ 1).bind itD)) (fun d => .ok [d]) [3] (([("row", 3)] : List (Str × Nat)).map (·.2)) cYes (fun ρ => ((rget ρ 3).bind fun d => (((((rget ρ 2).bind fun d => ((.ok [] : Res (List PyData))).bind fun ds => .ok (d :: ds))).bind fun ds => (.ok (.tuple ds) : Res PyData))).bind fun d' => addD d d')) ρ)).bind fun d' => addD d d')) ρ) ds (wipeD ρ [2])).bind (Fl.go (fun (ρ : Rho) => (fun (ρ : Rho) => (rget ρ 1).bind fun d => .ok (.rt d)) (wipeD ρ [2]))))))
def g_all_rows : List PyData → Res PyData := runF 4 F_all_rows
def F_best : Rho → Res Fl := (fun (ρ : Rho) => (setF 4 ((.ok .none : Res PyData)) ρ).bind (Fl.go (fun (ρ : Rho) => (((((((((((((rget ρ 0).bind fun d => ((.ok (.int 1) : Res PyData)).bind fun d' => idxD d d')).bind fun d => .ok [d]).bind lenD)).bind fun d => ((.ok [] : Res (List PyData))).bind fun ds => .ok (d :: ds))).bind g_all_rows)).bind itD)).bind fun ds => forL (fun d => .ok [d]) [5] [5, 6, 7, 8] (fun (ρ : Rho) => (iteR ((((((((((compD (fun ρ => ((rget ρ 1).bind itD)) (fun d => .ok [d]) [9] (([("spot", 9)] : List (Str × Nat)).map (·.2)) cYes (fun ρ => ((rget ρ 9).bind fun d => (rget ρ 5).bind fun d' => inD d d')) ρ)).bind fun d => ((.ok [] : Res (List PyData))).bind fun ds => .ok (d :: ds))).bind allD)).bind toB)).bind fun b => .ok (!b))) ((fun (ρ : Rho) => .ok (.ct ρ)) ρ) ((fun (ρ : Rho) => .ok (.nx ρ)) ρ)).bind (Fl.go (fun (ρ : Rho) => ((((((((((((rget ρ 0).bind fun d => ((.ok (.int 2) : Res PyData)).bind fun d' => idxD d d')).bind fun d => .ok [d]).bind lenD)).bind fun d => ((.ok [] : Res (List PyData))).bind fun ds => .ok (d :: ds))).bind g_all_rows)).bind itD)).bind fun ds => forL (fun d => .ok [d]) [6] [6, 7, 8] (fun (ρ : Rho) => (setF 7 (((((rget ρ 5).bind fun d => (((rget ρ 6).bind fun d => ((.ok [] : Res (List PyData))).bind fun ds => .ok (d :: ds))).bind fun ds => .ok (d :: ds))).bind fun ds => (.ok (.tuple ds) : Res PyData))) ρ).bind (Fl.go (fun (ρ : Rho) => (iteR ((((((((((compD (fun ρ => ((rget ρ 2).bind itD)) (fun d => .ok [d]) [10] (([("kicker", 10)] : List (Str × Nat)).map (·.2)) cYes (fun ρ => ((rget ρ 10).bind fun d => (rget ρ 6).bind fun d' => inD d d')) ρ)).bind fun d => ((.ok [] : Res (List PyData))).bind fun ds => .ok (d :: ds))).bind allD)).bind toB)).bind fun b => .ok (!b))) ((fun (ρ : Rho) => .ok (.ct ρ)) ρ) ((fun (ρ : Rho) => .ok (.nx ρ)) ρ)).bind (Fl.go (fun (ρ : Rho) => (setF 8 (((((((((rget ρ 0).bind fun d => (((rget ρ 7).bind fun d => ((.ok [] : Res (List PyData))).bind fun ds => .ok (d :: ds))).bind fun ds => .ok (d :: ds))).bind g_cost_of)).bind fun d => ((((((((rget ρ 5).bind fun d => .ok [d]).bind lenD)).bind fun d => ((((rget ρ 6).bind fun d => .ok [d]).bind lenD)).bind fun d' => addD d d')).bind fun d => (((rget ρ 7).bind fun d => ((.ok [] : Res (List PyData))).bind fun ds => .ok (d :: ds))).bind fun ds => .ok (d :: ds))).bind fun ds => .ok (d :: ds))).bind fun ds => (.ok (.tuple ds) : Res PyData))) ρ).bind (Fl.go (fun (ρ : Rho) => iteR ((andT ((orT (((rget ρ 4).bind fun d => .ok (isNone d))) ((((rget ρ 8).bind fun d => (rget ρ 4).bind fun d' => ltD d d').bind toB)))) ((((((((rget ρ 0).bind fun d => (((rget ρ 7).bind fun d => ((.ok [] : Res (List PyData))).bind fun ds => .ok (d :: ds))).bind fun ds => .ok (d :: ds))).bind g_least_seen)).bind fun d => (rget ρ 3).bind fun d' => gtI d d').bind toB)))) ((fun (ρ : Rho) => setF 4 (rget ρ 8) ρ) ρ) ((fun (ρ : Rho) => .ok (.nx ρ)) ρ)))))))) ds (wipeD ρ [6, 7, 8])))) ds (wipeD ρ [5, 6, 7, 8])).bind (Fl.go (fun (ρ : Rho) => (fun (ρ : Rho) => (iteR (((rget ρ 4).bind fun d => .ok (isNone d))) ((fun (ρ : Rho) => .exc "NoPlan") ρ) ((fun (ρ : Rho) => .ok (.nx ρ)) ρ)).bind (Fl.go (fun (ρ : Rho) => (((rget ρ 4).bind fun d => ((.ok (.int 2) : Res PyData)).bind fun d' => idxD d d')).bind fun d => .ok (.rt d)))) (wipeD ρ [5, 6, 7, 8]))))))
def g_best : List PyData → Res PyData := runF 11 F_best
def F_least : Rho → Res Fl := (fun (ρ : Rho) => ((((((rget ρ 0).bind fun d => ((.ok [] : Res (List PyData))).bind fun ds => .ok (d :: ds))).bind g_need_belt)).bind fun _ => .ok (.nx ρ)).bind (Fl.go (fun (ρ : Rho) => ((((((rget ρ 1).bind fun d => ((.ok [] : Res (List PyData))).bind fun ds => .ok (d :: ds))).bind g_need_count)).bind fun _ => .ok (.nx ρ)).bind (Fl.go (fun (ρ : Rho) => (((((rget ρ 0).bind fun d => ((((((.ok [] : Res (List PyData))).bind fun ds => (.ok (.tuple ds) : Res PyData))).bind fun d => ((((((.ok [] : Res (List PyData))).bind fun ds => (.ok (.tuple ds) : Res PyData))).bind fun d => (((rget ρ 1).bind fun d => ((.ok [] : Res (List PyData))).bind fun ds => .ok (d :: ds))).bind fun ds => .ok (d :: ds))).bind fun ds => .ok (d :: ds))).bind fun ds => .ok (d :: ds))).bind g_best)).bind fun d => .ok (.rt d))))))
def g_least : List PyData → Res PyData := runF 2 F_least
def F_most_borne : Rho → Res Fl := (fun (ρ : Rho) => ((((((rget ρ 0).bind fun d => ((.ok [] : Res (List PyData))).bind fun ds => .ok (d :: ds))).bind g_need_belt)).bind fun _ => .ok (.nx ρ)).bind (Fl.go (fun (ρ : Rho) => (setF 1 ((((((((((((rget ρ 0).bind fun d => ((.ok (.int 1) : Res PyData)).bind fun d' => idxD d d')).bind fun d => .ok [d]).bind lenD)).bind fun d => (rngL d).bind fun l => .ok (.tuple l))).bind fun d => ((((((((((rget ρ 0).bind fun d => ((.ok (.int 2) : Res PyData)).bind fun d' => idxD d d')).bind fun d => .ok [d]).bind lenD)).bind fun d => (rngL d).bind fun l => .ok (.tuple l))).bind fun d => ((.ok [] : Res (List PyData))).bind fun ds => .ok (d :: ds))).bind fun ds => .ok (d :: ds))).bind fun ds => (.ok (.tuple ds) : Res PyData))) ρ).bind (Fl.go (fun (ρ : Rho) => (setF 2 (((((rget ρ 0).bind fun d => (((rget ρ 1).bind fun d => ((.ok [] : Res (List PyData))).bind fun ds => .ok (d :: ds))).bind fun ds => .ok (d :: ds))).bind g_least_seen)) ρ).bind (Fl.go (fun (ρ : Rho) => ((iteR ((((rget ρ 2).bind fun d => ((.ok (.int 0) : Res PyData)).bind fun d' => gtI d d').bind toB)) (((rget ρ 2).bind fun d => ((.ok (.int 1) : Res PyData)).bind fun d' => subD d d')) ((.ok .none : Res PyData)))).bind fun d => .ok (.rt d))))))))
def g_most_borne : List PyData → Res PyData := runF 3 F_most_borne
def F_floor_of : Rho → Res Fl := (fun (ρ : Rho) => ((((((rget ρ 0).bind fun d => ((.ok [] : Res (List PyData))).bind fun ds => .ok (d :: ds))).bind g_need_belt)).bind fun _ => .ok (.nx ρ)).bind (Fl.go (fun (ρ : Rho) => ((((((rget ρ 1).bind fun d => ((.ok [] : Res (List PyData))).bind fun ds => .ok (d :: ds))).bind g_need_count)).bind fun _ => .ok (.nx ρ)).bind (Fl.go (fun (ρ : Rho) => (((((((((rget ρ 0).bind fun d => ((.ok (.int 2) : Res PyData)).bind fun d' => idxD d d')).bind fun d => .ok [d]).bind lenD)).bind fun d => (rngL d).bind fun l => .ok (.tuple l))).bind fun d => ((.ok (.int 0) : Res PyData)).bind fun d' => .ok (.nx ((ρ.set 2 (some (.d d))).set 3 (some (.d d'))))).bind (Fl.go (fun (ρ : Rho) => (((((((((rget ρ 0).bind fun d => ((.ok (.int 0) : Res PyData)).bind fun d' => idxD d d')).bind fun d => .ok [d]).bind lenD)).bind rngL)).bind fun ds => forL (fun d => .ok [d]) [4] [4, 5] (fun (ρ : Rho) => (setF 5 ((((((compD (fun ρ => ((((((rget ρ 0).bind fun d => ((((((((((rget ρ 0).bind fun d => ((.ok (.int 1) : Res PyData)).bind fun d' => idxD d d')).bind fun d => .ok [d]).bind lenD)).bind fun d => (rngL d).bind fun l => .ok (.list l))).bind fun d => (((rget ρ 2).bind fun d => (((rget ρ 4).bind fun d => ((.ok [] : Res (List PyData))).bind fun ds => .ok (d :: ds))).bind fun ds => .ok (d :: ds))).bind fun ds => .ok (d :: ds))).bind fun ds => .ok (d :: ds))).bind g_useful)).bind itD)) (fun d => .ok [d]) [6] (([("spot", 6)] : List (Str × Nat)).map (·.2)) cYes (fun ρ => ((((((rget ρ 0).bind fun d => ((.ok (.int 1) : Res PyData)).bind fun d' => idxD d d')).bind fun d => (rget ρ 6).bind fun d' => idxD d d')).bind fun d => ((.ok (.int 1) : Res PyData)).bind fun d' => idxD d d')) ρ)).bind fun d => ((.ok [] : Res (List PyData))).bind fun ds => .ok (d :: ds))).bind sortD)) ρ).bind (Fl.go (fun (ρ : Rho) => (iteR (((((((rget ρ 5).bind fun d => .ok [d]).bind lenD)).bind fun d => (rget ρ 1).bind fun d' => leI d d').bind toB)) ((fun (ρ : Rho) => ((.ok .none : Res PyData)).bind fun d => .ok (.rt d)) ρ) ((fun (ρ : Rho) => .ok (.nx ρ)) ρ)).bind (Fl.go (fun (ρ : Rho) => setF 3 (((((rget ρ 3).bind fun d => (((((((((rget ρ 5).bind fun d => ((.ok none : Res (Option Int))).bind fun l => (((((rget ρ 1).bind fun d => ((.ok (.int 1) : Res PyData)).bind fun d' => addD d d')).bind fun d => (toI d).bind fun i => .ok (some i))).bind fun h => sliceD l h d)).bind fun d => ((.ok [] : Res (List PyData))).bind fun ds => .ok (d :: ds))).bind sumD)).bind fun d => ((.ok [] : Res (List PyData))).bind fun ds => .ok (d :: ds))).bind fun ds => .ok (d :: ds))).bind maxD)) ρ))))) ds (wipeD ρ [4, 5])).bind (Fl.go (fun (ρ : Rho) => (fun (ρ : Rho) => (((rget ρ 3).bind fun d => ((((((compD (fun ρ => ((((rget ρ 0).bind fun d => ((.ok (.int 2) : Res PyData)).bind fun d' => idxD d d')).bind itD)) (fun d => .ok [d]) [7] (([("kicker", 7)] : List (Str × Nat)).map (·.2)) cYes (fun ρ => ((rget ρ 7).bind fun d => ((.ok (.int 1) : Res PyData)).bind fun d' => idxD d d')) ρ)).bind fun d => ((.ok [] : Res (List PyData))).bind fun ds => .ok (d :: ds))).bind minD)).bind fun d' => addD d d')).bind fun d => .ok (.rt d)) (wipeD ρ [4, 5]))))))))))
def g_floor_of : List PyData → Res PyData := runF 8 F_floor_of
def F_law_cell : Rho → Res Fl := (fun (ρ : Rho) => (iteR ((((rget ρ 0).bind fun d => ((((.ok [] : Res (List PyData))).bind fun ds => (.ok (.list ds) : Res PyData))).bind fun d' => eqD d d').bind toB)) ((fun (ρ : Rho) => (((rget ρ 1).bind fun d => ((.ok (.int 7919) : Res PyData)).bind fun d' => mulD d d')).bind fun d => .ok (.rt d)) ρ) ((fun (ρ : Rho) => .ok (.nx ρ)) ρ)).bind (Fl.go (fun (ρ : Rho) => (((((rget ρ 0).bind fun d => (((rget ρ 1).bind fun d => ((((rget ρ 0).bind fun d => .ok [d]).bind lenD)).bind fun d' => modD d d')).bind fun d' => idxD d d')).bind fun d => (((((rget ρ 1).bind fun d => ((((rget ρ 0).bind fun d => .ok [d]).bind lenD)).bind fun d' => fdivD d d')).bind fun d => ((.ok (.int 104729) : Res PyData)).bind fun d' => mulD d d')).bind fun d' => addD d d')).bind fun d => .ok (.rt d))))
def g_law_cell : List PyData → Res PyData := runF 2 F_law_cell
def F_law_drawn : Rho → Res Fl := (fun (ρ : Rho) => (setF 2 (((((((rget ρ 0).bind fun d => ((.ok (.int 6364136223846793005) : Res PyData)).bind fun d' => mulD d d')).bind fun d => (((((rget ρ 1).bind fun d => ((.ok (.int 1) : Res PyData)).bind fun d' => addD d d')).bind fun d => ((.ok (.int 1442695040888963407) : Res PyData)).bind fun d' => mulD d d')).bind fun d' => addD d d')).bind fun d => ((.ok (.int 340282366920938463463374607431768211507) : Res PyData)).bind fun d' => modD d d')) ρ).bind (Fl.go (fun (ρ : Rho) => (setF 2 (((((rget ρ 2).bind fun d => (rget ρ 2).bind fun d' => mulD d d')).bind fun d => ((.ok (.int 340282366920938463463374607431768211297) : Res PyData)).bind fun d' => modD d d')) ρ).bind (Fl.go (fun (ρ : Rho) => (setF 2 (((((((((rget ρ 2).bind fun d => ((.ok (.int 18446744073709551557) : Res PyData)).bind fun d' => modD d d')).bind fun d => ((.ok (.int 1) : Res PyData)).bind fun d' => addD d d')).bind fun d => (((((rget ρ 2).bind fun d => ((.ok (.int 18446744073709551557) : Res PyData)).bind fun d' => fdivD d d')).bind fun d => ((.ok (.int 1) : Res PyData)).bind fun d' => addD d d')).bind fun d' => mulD d d')).bind fun d => (rget ρ 2).bind fun d' => mulD d d')) ρ).bind (Fl.go (fun (ρ : Rho) => (((rget ρ 2).bind fun d => ((.ok (.int 340282366920938463463374607431768211507) : Res PyData)).bind fun d' => modD d d')).bind fun d => .ok (.rt d))))))))
def g_law_drawn : List PyData → Res PyData := runF 3 F_law_drawn
def F_law_some : Rho → Res Fl := (fun (ρ : Rho) => ((((((compD (fun ρ => ((rget ρ 1).bind rngL)) (fun d => .ok [d]) [3] (([("_law_number", 3)] : List (Str × Nat)).map (·.2)) (fun (ρ : Rho) => (((((((((((rget ρ 0).bind fun d => ((((((.ok (.int 500) : Res PyData)).bind fun d => (rget ρ 3).bind fun d' => addD d d')).bind fun d => ((.ok [] : Res (List PyData))).bind fun ds => .ok (d :: ds))).bind fun ds => .ok (d :: ds))).bind g_law_drawn)).bind fun d => ((.ok (.int 16) : Res PyData)).bind fun d' => fdivD d d')).bind fun d => (rget ρ 2).bind fun d' => modD d d')).bind fun d => ((.ok (.int 0) : Res PyData)).bind fun d' => gtI d d').bind toB)) (fun ρ => rget ρ 3) ρ)).bind fun d => ((.ok [] : Res (List PyData))).bind fun ds => .ok (d :: ds))).bind tupleD)).bind fun d => .ok (.rt d))
def g_law_some : List PyData → Res PyData := runF 4 F_law_some
def F_law_belt : Rho → Res Fl := (fun (ρ : Rho) => (setF 2 ((((((((.ok (.int 100) : Res PyData)).bind fun d => ((((.ok (.int 10) : Res PyData)).bind fun d => ((((.ok (.int 4) : Res PyData)).bind fun d => ((.ok [] : Res (List PyData))).bind fun ds => .ok (d :: ds))).bind fun ds => .ok (d :: ds))).bind fun ds => .ok (d :: ds))).bind fun ds => (.ok (.list ds) : Res PyData))).bind fun d => (((((rget ρ 0).bind fun d => ((.ok (.int 16) : Res PyData)).bind fun d' => fdivD d d')).bind fun d => ((.ok (.int 3) : Res PyData)).bind fun d' => modD d d')).bind fun d' => idxD d d')) ρ).bind (Fl.go (fun (ρ : Rho) => (setF 3 ((((((compD (fun ρ => (((((.ok (.int 1) : Res PyData)).bind fun d => (((((rget ρ 0).bind fun d => ((.ok (.int 64) : Res PyData)).bind fun d' => fdivD d d')).bind fun d => ((((((((.ok (.int 6) : Res PyData)).bind fun d => ((((.ok (.int 3) : Res PyData)).bind fun d => ((.ok [] : Res (List PyData))).bind fun ds => .ok (d :: ds))).bind fun ds => .ok (d :: ds))).bind fun ds => (.ok (.list ds) : Res PyData))).bind fun d => (((((rget ρ 0).bind fun d => ((.ok (.int 8) : Res PyData)).bind fun d' => fdivD d d')).bind fun d => ((.ok (.int 2) : Res PyData)).bind fun d' => modD d d')).bind fun d' => idxD d d')).bind fun d' => modD d d')).bind fun d' => addD d d')).bind rngL)) (fun d => .ok [d]) [5] (([("_law_j", 5)] : List (Str × Nat)).map (·.2)) cYes (fun ρ => ((((((((rget ρ 0).bind fun d => (((rget ρ 5).bind fun d => ((.ok [] : Res (List PyData))).bind fun ds => .ok (d :: ds))).bind fun ds => .ok (d :: ds))).bind g_law_drawn)).bind fun d => ((.ok (.int 16) : Res PyData)).bind fun d' => fdivD d d')).bind fun d => (rget ρ 2).bind fun d' => modD d d')) ρ)).bind fun d => ((.ok [] : Res (List PyData))).bind fun ds => .ok (d :: ds))).bind tupleD)) ρ).bind (Fl.go (fun (ρ : Rho) => (((.ok [] : Res (List PyData))).bind fun ds => .ok (.nx (ρ.set 4 (some (.mu ds))))).bind (Fl.go (fun (ρ : Rho) => ((((((((rget ρ 0).bind fun d => ((.ok (.int 512) : Res PyData)).bind fun d' => fdivD d d')).bind fun d => (((rget ρ 1).bind fun d => ((.ok (.int 1) : Res PyData)).bind fun d' => addD d d')).bind fun d' => modD d d')).bind rngL)).bind fun ds => forL (fun d => .ok [d]) [5] [5, 6, 7, 8] (fun (ρ : Rho) => (setF 6 (((((rget ρ 0).bind fun d => ((((((.ok (.int 10) : Res PyData)).bind fun d => (rget ρ 5).bind fun d' => addD d d')).bind fun d => ((.ok [] : Res (List PyData))).bind fun ds => .ok (d :: ds))).bind fun ds => .ok (d :: ds))).bind g_law_drawn)) ρ).bind (Fl.go (fun (ρ : Rho) => (setF 7 (((((rget ρ 6).bind fun d => ((((((rget ρ 3).bind fun d => .ok [d]).bind lenD)).bind fun d => ((((((((((.ok (.int 2) : Res PyData)).bind fun d => ((((.ok (.int 4) : Res PyData)).bind fun d => ((((.ok (.int 3) : Res PyData)).bind fun d => ((.ok [] : Res (List PyData))).bind fun ds => .ok (d :: ds))).bind fun ds => .ok (d :: ds))).bind fun ds => .ok (d :: ds))).bind fun ds => (.ok (.list ds) : Res PyData))).bind fun d => (((((rget ρ 0).bind fun d => ((.ok (.int 4096) : Res PyData)).bind fun d' => fdivD d d')).bind fun d => ((.ok (.int 3) : Res PyData)).bind fun d' => modD d d')).bind fun d' => idxD d d')).bind fun d => ((.ok [] : Res (List PyData))).bind fun ds => .ok (d :: ds))).bind fun ds => .ok (d :: ds))).bind fun ds => .ok (d :: ds))).bind g_law_some)) ρ).bind (Fl.go (fun (ρ : Rho) => (setF 8 (((((((rget ρ 6).bind fun d => ((.ok (.int 16) : Res PyData)).bind fun d' => fdivD d d')).bind fun d => (rget ρ 2).bind fun d' => modD d d')).bind fun d => ((((((((((.ok (.int 0) : Res PyData)).bind fun d => (((((rget ρ 2).bind fun d => ((.ok (.int 2) : Res PyData)).bind fun d' => fdivD d d')).bind fun d => ((.ok [] : Res (List PyData))).bind fun ds => .ok (d :: ds))).bind fun ds => .ok (d :: ds))).bind fun ds => (.ok (.list ds) : Res PyData))).bind fun d => (((((rget ρ 6).bind fun d => ((((.ok (.int 2) : Res PyData)).bind fun d => ((.ok (.int 20) : Res PyData)).bind fun d' => powD d d')).bind fun d' => fdivD d d')).bind fun d => ((.ok (.int 2) : Res PyData)).bind fun d' => modD d d')).bind fun d' => idxD d d')).bind fun d => (((((((rget ρ 2).bind fun d => ((.ok (.int 50) : Res PyData)).bind fun d' => ltI d d')).bind fun d => ((.ok [] : Res (List PyData))).bind fun ds => .ok (d :: ds))).bind intD)).bind fun d' => mulD d d')).bind fun d' => addD d d')) ρ).bind (Fl.go (fun (ρ : Rho) => appF 4 (((((rget ρ 8).bind fun d => ((((((.ok (.int 1) : Res PyData)).bind fun d => (((((rget ρ 6).bind fun d => ((.ok (.int 1024) : Res PyData)).bind fun d' => fdivD d d')).bind fun d => ((((((((.ok (.int 20) : Res PyData)).bind fun d => ((((.ok (.int 3) : Res PyData)).bind fun d => ((.ok [] : Res (List PyData))).bind fun ds => .ok (d :: ds))).bind fun ds => .ok (d :: ds))).bind fun ds => (.ok (.list ds) : Res PyData))).bind fun d => (((((rget ρ 6).bind fun d => ((.ok (.int 8) : Res PyData)).bind fun d' => fdivD d d')).bind fun d => ((.ok (.int 2) : Res PyData)).bind fun d' => modD d d')).bind fun d' => idxD d d')).bind fun d' => modD d d')).bind fun d' => addD d d')).bind fun d => (((rget ρ 7).bind fun d => ((.ok [] : Res (List PyData))).bind fun ds => .ok (d :: ds))).bind fun ds => .ok (d :: ds))).bind fun ds => .ok (d :: ds))).bind fun ds => (.ok (.tuple ds) : Res PyData))) ρ))))))) ds (wipeD ρ [5, 6, 7, 8])).bind (Fl.go (fun (ρ : Rho) => (fun (ρ : Rho) => (((.ok [] : Res (List PyData))).bind fun ds => .ok (.nx (ρ.set 9 (some (.mu ds))))).bind (Fl.go (fun (ρ : Rho) => ((((((((rget ρ 0).bind fun d => ((((.ok (.int 2) : Res PyData)).bind fun d => ((.ok (.int 30) : Res PyData)).bind fun d' => powD d d')).bind fun d' => fdivD d d')).bind fun d => ((.ok (.int 4) : Res PyData)).bind fun d' => modD d d')).bind rngL)).bind fun ds => forL (fun d => .ok [d]) [5] [5, 6] (fun (ρ : Rho) => (setF 6 (((((rget ρ 0).bind fun d => ((((((.ok (.int 30) : Res PyData)).bind fun d => (rget ρ 5).bind fun d' => addD d d')).bind fun d => ((.ok [] : Res (List PyData))).bind fun ds => .ok (d :: ds))).bind fun ds => .ok (d :: ds))).bind g_law_drawn)) ρ).bind (Fl.go (fun (ρ : Rho) => appF 9 ((((((((((.ok (.int 99) : Res PyData)).bind fun d => (((((((rget ρ 6).bind fun d => ((.ok (.int 16) : Res PyData)).bind fun d' => fdivD d d')).bind fun d => ((((.ok (.int 2) : Res PyData)).bind fun d => (rget ρ 2).bind fun d' => mulD d d')).bind fun d' => modD d d')).bind fun d => ((.ok [] : Res (List PyData))).bind fun ds => .ok (d :: ds))).bind fun ds => .ok (d :: ds))).bind minD)).bind fun d => (((((((rget ρ 6).bind fun d => ((.ok (.int 1024) : Res PyData)).bind fun d' => fdivD d d')).bind fun d => ((((((((.ok (.int 21) : Res PyData)).bind fun d => ((((.ok (.int 2) : Res PyData)).bind fun d => ((.ok [] : Res (List PyData))).bind fun ds => .ok (d :: ds))).bind fun ds => .ok (d :: ds))).bind fun ds => (.ok (.list ds) : Res PyData))).bind fun d => (((((rget ρ 6).bind fun d => ((.ok (.int 8) : Res PyData)).bind fun d' => fdivD d d')).bind fun d => ((.ok (.int 2) : Res PyData)).bind fun d' => modD d d')).bind fun d' => idxD d d')).bind fun d' => modD d d')).bind fun d => ((.ok [] : Res (List PyData))).bind fun ds => .ok (d :: ds))).bind fun ds => .ok (d :: ds))).bind fun ds => (.ok (.tuple ds) : Res PyData))) ρ))) ds (wipeD ρ [5, 6])).bind (Fl.go (fun (ρ : Rho) => (frzS 9 (frzS 4 (fun (ρ : Rho) => (((((rget ρ 3).bind fun d => (((((((rget ρ 4).bind fun d => ((.ok [] : Res (List PyData))).bind fun ds => .ok (d :: ds))).bind tupleD)).bind fun d => (((((((rget ρ 9).bind fun d => ((.ok [] : Res (List PyData))).bind fun ds => .ok (d :: ds))).bind tupleD)).bind fun d => ((.ok [] : Res (List PyData))).bind fun ds => .ok (d :: ds))).bind fun ds => .ok (d :: ds))).bind fun ds => .ok (d :: ds))).bind fun ds => (.ok (.tuple ds) : Res PyData))).bind fun d => .ok (.rt d)))) (wipeD ρ [5, 6])))))) (wipeD ρ [5, 6, 7, 8]))))))))))
def g_law_belt : List PyData → Res PyData := runF 10 F_law_belt
def F_need_bottle : Rho → Res Fl := (fun (ρ : Rho) => (iteR (((((((((rget ρ 2).bind fun d => ((((((((rget ρ 0).bind fun d => ((.ok (.int 0) : Res PyData)).bind fun d' => idxD d d')).bind fun d => .ok [d]).bind lenD)).bind fun d => ((.ok [] : Res (List PyData))).bind fun ds => .ok (d :: ds))).bind fun ds => .ok (d :: ds))).bind g_is_rising)).bind toB)).bind fun b => .ok (!b))) ((fun (ρ : Rho) => .exc "BadBottle") ρ) ((fun (ρ : Rho) => .ok (.nx ρ)) ρ)).bind (Fl.go (fun (ρ : Rho) => iteR ((orT (((((((((rget ρ 3).bind fun d => ((((((((rget ρ 0).bind fun d => ((.ok (.int 1) : Res PyData)).bind fun d' => idxD d d')).bind fun d => .ok [d]).bind lenD)).bind fun d => ((.ok [] : Res (List PyData))).bind fun ds => .ok (d :: ds))).bind fun ds => .ok (d :: ds))).bind g_is_rising)).bind toB)).bind fun b => .ok (!b))) ((((((((((compD (fun ρ => ((rget ρ 3).bind itD)) (fun d => .ok [d]) [4] (([("spot", 4)] : List (Str × Nat)).map (·.2)) cYes (fun ρ => ((rget ρ 4).bind fun d => (((rget ρ 1).bind fun d => ((.ok (.int 0) : Res PyData)).bind fun d' => idxD d d')).bind fun d' => inD d d')) ρ)).bind fun d => ((.ok [] : Res (List PyData))).bind fun ds => .ok (d :: ds))).bind allD)).bind toB)).bind fun b => .ok (!b))))) ((fun (ρ : Rho) => .exc "BadBottle") ρ) ((fun (ρ : Rho) => .ok (.nx ρ)) ρ))))
def g_need_bottle : List PyData → Res PyData := runF 5 F_need_bottle
def F_out_of : Rho → Res Fl := (fun (ρ : Rho) => (((.ok [] : Res (List PyData))).bind fun ds => .ok (.nx (ρ.set 4 (some (.mu ds))))).bind (Fl.go (fun (ρ : Rho) => ((((((rget ρ 1).bind fun d => ((.ok (.int 0) : Res PyData)).bind fun d' => idxD d d')).bind itD)).bind fun ds => forL (fun d => .ok [d]) [5] [5] (fun (ρ : Rho) => iteR ((andT ((((rget ρ 5).bind fun d => (rget ρ 3).bind fun d' => notInD d d').bind toB)) ((((((((compD (fun ρ => ((rget ρ 2).bind itD)) (fun d => .ok [d]) [8] (([("fault", 8)] : List (Str × Nat)).map (·.2)) cYes (fun ρ => ((((rget ρ 0).bind fun d => (((rget ρ 5).bind fun d => (((rget ρ 8).bind fun d => ((.ok [] : Res (List PyData))).bind fun ds => .ok (d :: ds))).bind fun ds => .ok (d :: ds))).bind fun ds => .ok (d :: ds))).bind g_sees)) ρ)).bind fun d => ((.ok [] : Res (List PyData))).bind fun ds => .ok (d :: ds))).bind anyD)).bind toB)))) ((fun (ρ : Rho) => appF 4 (((((((((((rget ρ 0).bind fun d => ((.ok (.int 1) : Res PyData)).bind fun d' => idxD d d')).bind fun d => (rget ρ 5).bind fun d' => idxD d d')).bind fun d => ((.ok (.int 0) : Res PyData)).bind fun d' => idxD d d')).bind fun d => (((rget ρ 5).bind fun d => ((.ok [] : Res (List PyData))).bind fun ds => .ok (d :: ds))).bind fun ds => .ok (d :: ds))).bind fun ds => (.ok (.tuple ds) : Res PyData))) ρ) ρ) ((fun (ρ : Rho) => .ok (.nx ρ)) ρ)) ds (wipeD ρ [5])).bind (Fl.go (fun (ρ : Rho) => (frzS 4 (fun (ρ : Rho) => (iteR ((((rget ρ 4).bind fun d => ((((.ok [] : Res (List PyData))).bind fun ds => (.ok (.list ds) : Res PyData))).bind fun d' => eqD d d').bind toB)) ((fun (ρ : Rho) => ((.ok .none : Res PyData)).bind fun d => .ok (.rt d)) ρ) ((fun (ρ : Rho) => .ok (.nx ρ)) ρ)).bind (Fl.go (fun (ρ : Rho) => ((((((rget ρ 4).bind fun d => ((.ok [] : Res (List PyData))).bind fun ds => .ok (d :: ds))).bind minP)).bind fun d => (noX ((gT (gC (fun d => .ok [d]) (gC (fun d => .ok [d]) gN))) d)).bind fun as => .ok (.nx (setsD ρ ([6] ++ ([5] ++ [])) as))).bind (Fl.go (fun (ρ : Rho) => (setF 7 (((((rget ρ 0).bind fun d => (((((rget ρ 1).bind fun d => ((.ok (.int 1) : Res PyData)).bind fun d' => idxD d d')).bind fun d => (((rget ρ 6).bind fun d => ((.ok [] : Res (List PyData))).bind fun ds => .ok (d :: ds))).bind fun ds => .ok (d :: ds))).bind fun ds => .ok (d :: ds))).bind g_first_kicker)) ρ).bind (Fl.go (fun (ρ : Rho) => ((iteR (((rget ρ 7).bind fun d => .ok (isNone d))) ((.ok .none : Res PyData)) (((((rget ρ 5).bind fun d => (((rget ρ 7).bind fun d => ((.ok [] : Res (List PyData))).bind fun ds => .ok (d :: ds))).bind fun ds => .ok (d :: ds))).bind fun ds => (.ok (.tuple ds) : Res PyData))))).bind fun d => .ok (.rt d))))))))) (wipeD ρ [5]))))))
def g_out_of : List PyData → Res PyData := runF 9 F_out_of
def F_out : Rho → Res Fl := (fun (ρ : Rho) => ((((((rget ρ 0).bind fun d => ((.ok [] : Res (List PyData))).bind fun ds => .ok (d :: ds))).bind g_need_belt)).bind fun _ => .ok (.nx ρ)).bind (Fl.go (fun (ρ : Rho) => ((((((rget ρ 0).bind fun d => (((rget ρ 1).bind fun d => ((.ok [] : Res (List PyData))).bind fun ds => .ok (d :: ds))).bind fun ds => .ok (d :: ds))).bind g_need_plan)).bind fun _ => .ok (.nx ρ)).bind (Fl.go (fun (ρ : Rho) => ((((((rget ρ 0).bind fun d => (((rget ρ 1).bind fun d => (((rget ρ 2).bind fun d => (((rget ρ 3).bind fun d => ((.ok [] : Res (List PyData))).bind fun ds => .ok (d :: ds))).bind fun ds => .ok (d :: ds))).bind fun ds => .ok (d :: ds))).bind fun ds => .ok (d :: ds))).bind g_need_bottle)).bind fun _ => .ok (.nx ρ)).bind (Fl.go (fun (ρ : Rho) => (((((rget ρ 0).bind fun d => (((rget ρ 1).bind fun d => (((rget ρ 2).bind fun d => (((rget ρ 3).bind fun d => ((.ok [] : Res (List PyData))).bind fun ds => .ok (d :: ds))).bind fun ds => .ok (d :: ds))).bind fun ds => .ok (d :: ds))).bind fun ds => .ok (d :: ds))).bind g_out_of)).bind fun d => .ok (.rt d))))))))
def g_out : List PyData → Res PyData := runF 4 F_out
def F_run : Rho → Res Fl := (fun (ρ : Rho) => ((((((rget ρ 0).bind fun d => ((.ok [] : Res (List PyData))).bind fun ds => .ok (d :: ds))).bind g_need_belt)).bind fun _ => .ok (.nx ρ)).bind (Fl.go (fun (ρ : Rho) => ((((((rget ρ 0).bind fun d => (((rget ρ 1).bind fun d => ((.ok [] : Res (List PyData))).bind fun ds => .ok (d :: ds))).bind fun ds => .ok (d :: ds))).bind g_need_plan)).bind fun _ => .ok (.nx ρ)).bind (Fl.go (fun (ρ : Rho) => (iteR ((orT (((((((rget ρ 2).bind fun d => .ok (.bool (isLst d)))).bind toB)).bind fun b => .ok (!b))) ((((((((((compD (fun ρ => ((rget ρ 2).bind itD)) (fun d => .ok [d]) [7] (([("row", 7)] : List (Str × Nat)).map (·.2)) cYes (fun ρ => (andR (((rget ρ 7).bind fun d => .ok (.bool (isTup d)))) ((((((rget ρ 7).bind fun d => .ok [d]).bind lenD)).bind fun d => ((.ok (.int 2) : Res PyData)).bind fun d' => eqD d d')))) ρ)).bind fun d => ((.ok [] : Res (List PyData))).bind fun ds => .ok (d :: ds))).bind allD)).bind toB)).bind fun b => .ok (!b))))) ((fun (ρ : Rho) => .exc "BadBottle") ρ) ((fun (ρ : Rho) => .ok (.nx ρ)) ρ)).bind (Fl.go (fun (ρ : Rho) => ((((rget ρ 2).bind itD)).bind fun ds => forL (gT (gC (fun d => .ok [d]) (gC (fun d => .ok [d]) gN))) ([3] ++ ([4] ++ [])) [3, 4] (fun (ρ : Rho) => (((((rget ρ 0).bind fun d => (((rget ρ 1).bind fun d => (((rget ρ 3).bind fun d => (((rget ρ 4).bind fun d => ((.ok [] : Res (List PyData))).bind fun ds => .ok (d :: ds))).bind fun ds => .ok (d :: ds))).bind fun ds => .ok (d :: ds))).bind fun ds => .ok (d :: ds))).bind g_need_bottle)).bind fun _ => .ok (.nx ρ)) ds (wipeD ρ [3, 4])).bind (Fl.go (fun (ρ : Rho) => (fun (ρ : Rho) => (((.ok [] : Res (List PyData))).bind fun ds => .ok (.nx (ρ.set 5 (some (.mu ds))))).bind (Fl.go (fun (ρ : Rho) => ((((rget ρ 2).bind enumL)).bind fun ds => forL (gT (gC (fun d => .ok [d]) (gC (gT (gC (fun d => .ok [d]) (gC (fun d => .ok [d]) gN))) gN))) ([6] ++ (([3] ++ ([4] ++ [])) ++ [])) [3, 4, 6] (fun (ρ : Rho) => iteR ((andT ((((rget ρ 3).bind fun d => ((((.ok [] : Res (List PyData))).bind fun ds => (.ok (.tuple ds) : Res PyData))).bind fun d' => neD d d').bind toB)) (((((((rget ρ 0).bind fun d => (((rget ρ 1).bind fun d => (((rget ρ 3).bind fun d => (((rget ρ 4).bind fun d => ((.ok [] : Res (List PyData))).bind fun ds => .ok (d :: ds))).bind fun ds => .ok (d :: ds))).bind fun ds => .ok (d :: ds))).bind fun ds => .ok (d :: ds))).bind g_out_of)).bind fun d => .ok (isNone d))))) ((fun (ρ : Rho) => appF 5 (rget ρ 6) ρ) ρ) ((fun (ρ : Rho) => .ok (.nx ρ)) ρ)) ds (wipeD ρ [3, 4, 6])).bind (Fl.go (fun (ρ : Rho) => (frzS 5 (fun (ρ : Rho) => (rget ρ 5).bind fun d => .ok (.rt d))) (wipeD ρ [3, 4, 6])))))) (wipeD ρ [3, 4]))))))))))
def g_run : List PyData → Res PyData := runF 8 F_run
def F_law_plan : Rho → Res Fl := (fun (ρ : Rho) => (setF 2 ((((((((.ok (.int 2) : Res PyData)).bind fun d => ((((.ok (.int 9) : Res PyData)).bind fun d => ((((.ok (.int 3) : Res PyData)).bind fun d => ((.ok [] : Res (List PyData))).bind fun ds => .ok (d :: ds))).bind fun ds => .ok (d :: ds))).bind fun ds => .ok (d :: ds))).bind fun ds => (.ok (.list ds) : Res PyData))).bind fun d => (((((rget ρ 0).bind fun d => ((.ok (.int 8) : Res PyData)).bind fun d' => fdivD d d')).bind fun d => ((.ok (.int 3) : Res PyData)).bind fun d' => modD d d')).bind fun d' => idxD d d')) ρ).bind (Fl.go (fun (ρ : Rho) => (((((((((((((rget ρ 0).bind fun d => ((((.ok (.int 1) : Res PyData)).bind fun d => ((.ok [] : Res (List PyData))).bind fun ds => .ok (d :: ds))).bind fun ds => .ok (d :: ds))).bind g_law_drawn)).bind fun d => ((((((((rget ρ 1).bind fun d => ((.ok (.int 1) : Res PyData)).bind fun d' => idxD d d')).bind fun d => .ok [d]).bind lenD)).bind fun d => (((rget ρ 2).bind fun d => ((.ok [] : Res (List PyData))).bind fun ds => .ok (d :: ds))).bind fun ds => .ok (d :: ds))).bind fun ds => .ok (d :: ds))).bind g_law_some)).bind fun d => (((((((((((rget ρ 0).bind fun d => ((((.ok (.int 2) : Res PyData)).bind fun d => ((.ok [] : Res (List PyData))).bind fun ds => .ok (d :: ds))).bind fun ds => .ok (d :: ds))).bind g_law_drawn)).bind fun d => ((((((((rget ρ 1).bind fun d => ((.ok (.int 2) : Res PyData)).bind fun d' => idxD d d')).bind fun d => .ok [d]).bind lenD)).bind fun d => (((rget ρ 2).bind fun d => ((.ok [] : Res (List PyData))).bind fun ds => .ok (d :: ds))).bind fun ds => .ok (d :: ds))).bind fun ds => .ok (d :: ds))).bind g_law_some)).bind fun d => ((.ok [] : Res (List PyData))).bind fun ds => .ok (d :: ds))).bind fun ds => .ok (d :: ds))).bind fun ds => (.ok (.tuple ds) : Res PyData))).bind fun d => .ok (.rt d))))
def g_law_plan : List PyData → Res PyData := runF 3 F_law_plan
def F_law_out : Rho → Res Fl := (fun (ρ : Rho) => (setF 4 ((.ok .none : Res PyData)) ρ).bind (Fl.go (fun (ρ : Rho) => (((((.ok (.int 100) : Res PyData)).bind rngL)).bind fun ds => forL (fun d => .ok [d]) [5] [5, 6, 7, 8, 9] (fun (ρ : Rho) => ((((((rget ρ 1).bind fun d => ((.ok (.int 0) : Res PyData)).bind fun d' => idxD d d')).bind itD)).bind fun ds => forL (fun d => .ok [d]) [6] [6, 7, 8, 9] (fun (ρ : Rho) => ((((((rget ρ 0).bind fun d => ((.ok (.int 1) : Res PyData)).bind fun d' => idxD d d')).bind fun d => (rget ρ 6).bind fun d' => idxD d d')).bind fun d => (noX ((gT (gC (fun d => .ok [d]) (gC (fun d => .ok [d]) (gC (fun d => .ok [d]) gN)))) d)).bind fun as => .ok (.nx (setsD ρ ([7] ++ ([8] ++ ([9] ++ []))) as))).bind (Fl.go (fun (ρ : Rho) => iteR ((andT (((rget ρ 4).bind fun d => .ok (isNone d))) ((andT ((((rget ρ 7).bind fun d => (rget ρ 5).bind fun d' => eqD d d').bind toB)) ((((rget ρ 6).bind fun d => (rget ρ 3).bind fun d' => notInD d d').bind toB)))))) ((fun (ρ : Rho) => iteR (((((compD (fun ρ => ((rget ρ 2).bind itD)) (fun d => .ok [d]) [10] (([("_law_fault", 10)] : List (Str × Nat)).map (·.2)) (fun (ρ : Rho) => (andT ((((rget ρ 10).bind fun d => (rget ρ 9).bind fun d' => inD d d').bind toB)) ((((((((rget ρ 0).bind fun d => ((.ok (.int 0) : Res PyData)).bind fun d' => idxD d d')).bind fun d => (rget ρ 10).bind fun d' => idxD d d')).bind fun d => (rget ρ 7).bind fun d' => leI d d').bind toB)))) (fun ρ => rget ρ 10) ρ)).bind fun d => ((((.ok [] : Res (List PyData))).bind fun ds => (.ok (.list ds) : Res PyData))).bind fun d' => neD d d').bind toB)) ((fun (ρ : Rho) => setF 4 (rget ρ 6) ρ) ρ) ((fun (ρ : Rho) => .ok (.nx ρ)) ρ)) ρ) ((fun (ρ : Rho) => .ok (.nx ρ)) ρ)))) ds (wipeD ρ [6, 7, 8, 9])).bind (Fl.go (fun (ρ : Rho) => (fun (ρ : Rho) => (((((rget ρ 1).bind fun d => ((.ok (.int 1) : Res PyData)).bind fun d' => idxD d d')).bind itD)).bind fun ds => forL (fun d => .ok [d]) [6] [6] (fun (ρ : Rho) => iteR ((andT (((rget ρ 4).bind fun d => .ok (!isNone d))) ((((((((((rget ρ 0).bind fun d => ((.ok (.int 2) : Res PyData)).bind fun d' => idxD d d')).bind fun d => (rget ρ 6).bind fun d' => idxD d d')).bind fun d => ((.ok (.int 0) : Res PyData)).bind fun d' => idxD d d')).bind fun d => (rget ρ 5).bind fun d' => eqD d d').bind toB)))) ((fun (ρ : Rho) => (((((rget ρ 4).bind fun d => (((rget ρ 6).bind fun d => ((.ok [] : Res (List PyData))).bind fun ds => .ok (d :: ds))).bind fun ds => .ok (d :: ds))).bind fun ds => (.ok (.tuple ds) : Res PyData))).bind fun d => .ok (.rt d)) ρ) ((fun (ρ : Rho) => .ok (.nx ρ)) ρ)) ds (wipeD ρ [6])) (wipeD ρ [6, 7, 8, 9])))) ds (wipeD ρ [5, 6, 7, 8, 9])).bind (Fl.go (fun (ρ : Rho) => (fun (ρ : Rho) => ((.ok .none : Res PyData)).bind fun d => .ok (.rt d)) (wipeD ρ [4, 5, 6, 7, 8, 9]))))))
def g_law_out : List PyData → Res PyData := runF 11 F_law_out
def F_lets : Rho → Res Fl := (fun (ρ : Rho) => ((((((rget ρ 0).bind fun d => ((.ok [] : Res (List PyData))).bind fun ds => .ok (d :: ds))).bind g_need_belt)).bind fun _ => .ok (.nx ρ)).bind (Fl.go (fun (ρ : Rho) => ((((((rget ρ 0).bind fun d => (((rget ρ 1).bind fun d => ((.ok [] : Res (List PyData))).bind fun ds => .ok (d :: ds))).bind fun ds => .ok (d :: ds))).bind g_need_plan)).bind fun _ => .ok (.nx ρ)).bind (Fl.go (fun (ρ : Rho) => ((((((rget ρ 2).bind fun d => ((.ok [] : Res (List PyData))).bind fun ds => .ok (d :: ds))).bind g_need_count)).bind fun _ => .ok (.nx ρ)).bind (Fl.go (fun (ρ : Rho) => (((((((((rget ρ 0).bind fun d => ((.ok (.int 0) : Res PyData)).bind fun d' => idxD d d')).bind fun d => .ok [d]).bind lenD)).bind rngL)).bind fun ds => forL (fun d => .ok [d]) [3] [3, 4] (fun (ρ : Rho) => (setF 4 (((((rget ρ 0).bind fun d => (((((rget ρ 1).bind fun d => ((.ok (.int 0) : Res PyData)).bind fun d' => idxD d d')).bind fun d => (((((rget ρ 1).bind fun d => ((.ok (.int 1) : Res PyData)).bind fun d' => idxD d d')).bind fun d => (((rget ρ 3).bind fun d => ((.ok [] : Res (List PyData))).bind fun ds => .ok (d :: ds))).bind fun ds => .ok (d :: ds))).bind fun ds => .ok (d :: ds))).bind fun ds => .ok (d :: ds))).bind g_useful)) ρ).bind (Fl.go (fun (ρ : Rho) => iteR (((((((rget ρ 4).bind fun d => .ok [d]).bind lenD)).bind fun d => (rget ρ 2).bind fun d' => leI d d').bind toB)) ((fun (ρ : Rho) => (((((((((rget ρ 3).bind fun d => ((.ok [] : Res (List PyData))).bind fun ds => .ok (d :: ds))).bind fun ds => (.ok (.tuple ds) : Res PyData))).bind fun d => (((((((rget ρ 4).bind fun d => ((.ok [] : Res (List PyData))).bind fun ds => .ok (d :: ds))).bind tupleD)).bind fun d => ((.ok [] : Res (List PyData))).bind fun ds => .ok (d :: ds))).bind fun ds => .ok (d :: ds))).bind fun ds => (.ok (.tuple ds) : Res PyData))).bind fun d => .ok (.rt d)) ρ) ((fun (ρ : Rho) => .ok (.nx ρ)) ρ)))) ds (wipeD ρ [3, 4])).bind (Fl.go (fun (ρ : Rho) => (fun (ρ : Rho) => ((.ok .none : Res PyData)).bind fun d => .ok (.rt d)) (wipeD ρ [3, 4]))))))))))
def g_lets : List PyData → Res PyData := runF 5 F_lets
def F_law_rows : Rho → Res Fl := (fun (ρ : Rho) => (setF 1 ((((((((.ok [] : Res (List PyData))).bind fun ds => (.ok (.tuple ds) : Res PyData))).bind fun d => ((.ok [] : Res (List PyData))).bind fun ds => .ok (d :: ds))).bind fun ds => (.ok (.list ds) : Res PyData))) ρ).bind (Fl.go (fun (ρ : Rho) => ((((rget ρ 0).bind rngL)).bind fun ds => forL (fun d => .ok [d]) [2] [2] (fun (ρ : Rho) => setF 1 (((rget ρ 1).bind fun d => ((compD (fun ρ => ((rget ρ 1).bind itD)) (fun d => .ok [d]) [3] (([("_law_row", 3)] : List (Str × Nat)).map (·.2)) cYes (fun ρ => ((rget ρ 3).bind fun d => (((((rget ρ 2).bind fun d => ((.ok [] : Res (List PyData))).bind fun ds => .ok (d :: ds))).bind fun ds => (.ok (.tuple ds) : Res PyData))).bind fun d' => addD d d')) ρ)).bind fun d' => addD d d')) ρ) ds (wipeD ρ [2])).bind (Fl.go (fun (ρ : Rho) => (fun (ρ : Rho) => (rget ρ 1).bind fun d => .ok (.rt d)) (wipeD ρ [2]))))))
def g_law_rows : List PyData → Res PyData := runF 4 F_law_rows
def F_law_holds : Rho → Res Fl := (fun (ρ : Rho) => ((compD (fun ρ => ((((rget ρ 1).bind fun d => ((.ok (.int 0) : Res PyData)).bind fun d' => idxD d d')).bind itD)) (fun d => .ok [d]) [3] (([("_law_spot", 3)] : List (Str × Nat)).map (·.2)) (fun (ρ : Rho) => ((((((rget ρ 0).bind fun d => (((((((((((rget ρ 3).bind fun d => ((.ok [] : Res (List PyData))).bind fun ds => .ok (d :: ds))).bind fun ds => (.ok (.tuple ds) : Res PyData))).bind fun d => (((((rget ρ 1).bind fun d => ((.ok (.int 1) : Res PyData)).bind fun d' => idxD d d')).bind fun d => ((.ok [] : Res (List PyData))).bind fun ds => .ok (d :: ds))).bind fun ds => .ok (d :: ds))).bind fun ds => (.ok (.tuple ds) : Res PyData))).bind fun d => (((((((rget ρ 2).bind fun d => ((.ok [] : Res (List PyData))).bind fun ds => .ok (d :: ds))).bind fun ds => (.ok (.tuple ds) : Res PyData))).bind fun d => ((((((.ok [] : Res (List PyData))).bind fun ds => (.ok (.tuple ds) : Res PyData))).bind fun d => ((.ok [] : Res (List PyData))).bind fun ds => .ok (d :: ds))).bind fun ds => .ok (d :: ds))).bind fun ds => .ok (d :: ds))).bind fun ds => .ok (d :: ds))).bind g_law_out)).bind fun d => .ok (!isNone d))) (fun ρ => rget ρ 3) ρ)).bind fun d => .ok (.rt d))
def g_law_holds : List PyData → Res PyData := runF 4 F_law_holds
def F_widened : Rho → Res Fl := (fun (ρ : Rho) => ((((((rget ρ 0).bind fun d => ((.ok [] : Res (List PyData))).bind fun ds => .ok (d :: ds))).bind g_need_belt)).bind fun _ => .ok (.nx ρ)).bind (Fl.go (fun (ρ : Rho) => ((((((rget ρ 0).bind fun d => (((rget ρ 1).bind fun d => ((.ok [] : Res (List PyData))).bind fun ds => .ok (d :: ds))).bind fun ds => .ok (d :: ds))).bind g_need_plan)).bind fun _ => .ok (.nx ρ)).bind (Fl.go (fun (ρ : Rho) => ((((((rget ρ 2).bind fun d => ((.ok [] : Res (List PyData))).bind fun ds => .ok (d :: ds))).bind g_need_count)).bind fun _ => .ok (.nx ρ)).bind (Fl.go (fun (ρ : Rho) => (((((rget ρ 0).bind fun d => (((((rget ρ 1).bind fun d => ((.ok (.int 0) : Res PyData)).bind fun d' => idxD d d')).bind fun d => (((((rget ρ 1).bind fun d => ((.ok (.int 1) : Res PyData)).bind fun d' => idxD d d')).bind fun d => (((rget ρ 2).bind fun d => ((.ok [] : Res (List PyData))).bind fun ds => .ok (d :: ds))).bind fun ds => .ok (d :: ds))).bind fun ds => .ok (d :: ds))).bind fun ds => .ok (d :: ds))).bind g_best)).bind fun d => .ok (.rt d))))))))
def g_widened : List PyData → Res PyData := runF 3 F_widened
def F_divisor : Rho → Res Fl := (fun (ρ : Rho) => (whileL (fun ρ => (((rget ρ 1).bind fun d => ((.ok (.int 0) : Res PyData)).bind fun d' => neD d d').bind toB)) (fun (ρ : Rho) => (rget ρ 1).bind fun d => (((rget ρ 0).bind fun d => (((((rget ρ 0).bind fun d => (rget ρ 1).bind fun d' => fdivD d d')).bind fun d => (rget ρ 1).bind fun d' => mulD d d')).bind fun d' => subD d d')).bind fun d' => .ok (.nx ((ρ.set 0 (some (.d d))).set 1 (some (.d d'))))) ((natOf (rget ρ 1)) + 2) ρ).bind (Fl.go (fun (ρ : Rho) => (fun (ρ : Rho) => (rget ρ 0).bind fun d => .ok (.rt d)) (wipeD ρ [1]))))
def g_divisor : List PyData → Res PyData := runF 2 F_divisor
def F_is_fraction : Rho → Res Fl := (fun (ρ : Rho) => (iteR ((orT (((((((rget ρ 0).bind fun d => .ok (.bool (isTup d)))).bind toB)).bind fun b => .ok (!b))) (((((((rget ρ 0).bind fun d => .ok [d]).bind lenD)).bind fun d => ((.ok (.int 2) : Res PyData)).bind fun d' => neD d d').bind toB)))) ((fun (ρ : Rho) => ((.ok (.bool false) : Res PyData)).bind fun d => .ok (.rt d)) ρ) ((fun (ρ : Rho) => .ok (.nx ρ)) ρ)).bind (Fl.go (fun (ρ : Rho) => (iteR ((((((((((compD (fun ρ => ((rget ρ 0).bind itD)) (fun d => .ok [d]) [1] (([("one", 1)] : List (Str × Nat)).map (·.2)) cYes (fun ρ => (andR (((rget ρ 1).bind fun d => .ok (.bool (isInt d)))) ((andR ((notR (((rget ρ 1).bind fun d => .ok (.bool (isBool d)))))) ((chR leI leI ((.ok (.int 0) : Res PyData)) (rget ρ 1) ((.ok (.int 1000) : Res PyData)))))))) ρ)).bind fun d => ((.ok [] : Res (List PyData))).bind fun ds => .ok (d :: ds))).bind allD)).bind toB)).bind fun b => .ok (!b))) ((fun (ρ : Rho) => ((.ok (.bool false) : Res PyData)).bind fun d => .ok (.rt d)) ρ) ((fun (ρ : Rho) => .ok (.nx ρ)) ρ)).bind (Fl.go (fun (ρ : Rho) => ((andR (((((rget ρ 0).bind fun d => ((.ok (.int 1) : Res PyData)).bind fun d' => idxD d d')).bind fun d => ((.ok (.int 0) : Res PyData)).bind fun d' => gtI d d')) (((((((((rget ρ 0).bind fun d => ((.ok (.int 0) : Res PyData)).bind fun d' => idxD d d')).bind fun d => (((((rget ρ 0).bind fun d => ((.ok (.int 1) : Res PyData)).bind fun d' => idxD d d')).bind fun d => ((.ok [] : Res (List PyData))).bind fun ds => .ok (d :: ds))).bind fun ds => .ok (d :: ds))).bind g_divisor)).bind fun d => ((.ok (.int 1) : Res PyData)).bind fun d' => eqD d d')))).bind fun d => .ok (.rt d))))))
def g_is_fraction : List PyData → Res PyData := runF 2 F_is_fraction
def F_plus : Rho → Res Fl := (fun (ρ : Rho) => ((((((((rget ρ 0).bind fun d => ((.ok (.int 0) : Res PyData)).bind fun d' => idxD d d')).bind fun d => (((rget ρ 1).bind fun d => ((.ok (.int 1) : Res PyData)).bind fun d' => idxD d d')).bind fun d' => mulD d d')).bind fun d => (((((rget ρ 1).bind fun d => ((.ok (.int 0) : Res PyData)).bind fun d' => idxD d d')).bind fun d => (((rget ρ 0).bind fun d => ((.ok (.int 1) : Res PyData)).bind fun d' => idxD d d')).bind fun d' => mulD d d')).bind fun d' => addD d d')).bind fun d => (((((rget ρ 0).bind fun d => ((.ok (.int 1) : Res PyData)).bind fun d' => idxD d d')).bind fun d => (((rget ρ 1).bind fun d => ((.ok (.int 1) : Res PyData)).bind fun d' => idxD d d')).bind fun d' => mulD d d')).bind fun d' => .ok (.nx ((ρ.set 2 (some (.d d))).set 3 (some (.d d'))))).bind (Fl.go (fun (ρ : Rho) => (setF 4 (((((((((rget ρ 2).bind fun d => ((.ok [] : Res (List PyData))).bind fun ds => .ok (d :: ds))).bind absD)).bind fun d => (((rget ρ 3).bind fun d => ((.ok [] : Res (List PyData))).bind fun ds => .ok (d :: ds))).bind fun ds => .ok (d :: ds))).bind g_divisor)) ρ).bind (Fl.go (fun (ρ : Rho) => (((((((rget ρ 2).bind fun d => (rget ρ 4).bind fun d' => fdivD d d')).bind fun d => (((((rget ρ 3).bind fun d => (rget ρ 4).bind fun d' => fdivD d d')).bind fun d => ((.ok [] : Res (List PyData))).bind fun ds => .ok (d :: ds))).bind fun ds => .ok (d :: ds))).bind fun ds => (.ok (.tuple ds) : Res PyData))).bind fun d => .ok (.rt d))))))
def g_plus : List PyData → Res PyData := runF 5 F_plus
def F_whole_sum : Rho → Res Fl := (fun (ρ : Rho) => (setF 1 ((((((.ok (.int 0) : Res PyData)).bind fun d => ((((.ok (.int 1) : Res PyData)).bind fun d => ((.ok [] : Res (List PyData))).bind fun ds => .ok (d :: ds))).bind fun ds => .ok (d :: ds))).bind fun ds => (.ok (.tuple ds) : Res PyData))) ρ).bind (Fl.go (fun (ρ : Rho) => ((((rget ρ 0).bind itD)).bind fun ds => forL (fun d => .ok [d]) [2] [2] (fun (ρ : Rho) => setF 1 (((((rget ρ 1).bind fun d => (((rget ρ 2).bind fun d => ((.ok [] : Res (List PyData))).bind fun ds => .ok (d :: ds))).bind fun ds => .ok (d :: ds))).bind g_plus)) ρ) ds (wipeD ρ [2])).bind (Fl.go (fun (ρ : Rho) => (fun (ρ : Rho) => (rget ρ 1).bind fun d => .ok (.rt d)) (wipeD ρ [2]))))))
def g_whole_sum : List PyData → Res PyData := runF 3 F_whole_sum
def F_need_paper : Rho → Res Fl := (fun (ρ : Rho) => (iteR ((orT (((((((rget ρ 1).bind fun d => .ok (.bool (isTup d)))).bind toB)).bind fun b => .ok (!b))) ((orT (((((((rget ρ 1).bind fun d => .ok [d]).bind lenD)).bind fun d => ((.ok (.int 2) : Res PyData)).bind fun d' => neD d d').bind toB)) ((((((((((compD (fun ρ => ((rget ρ 1).bind itD)) (fun d => .ok [d]) [9] (([("part", 9)] : List (Str × Nat)).map (·.2)) cYes (fun ρ => ((rget ρ 9).bind fun d => .ok (.bool (isTup d)))) ρ)).bind fun d => ((.ok [] : Res (List PyData))).bind fun ds => .ok (d :: ds))).bind allD)).bind toB)).bind fun b => .ok (!b))))))) ((fun (ρ : Rho) => .exc "BadPaper") ρ) ((fun (ρ : Rho) => .ok (.nx ρ)) ρ)).bind (Fl.go (fun (ρ : Rho) => ((rget ρ 1).bind fun d => (noX ((gT (gC (fun d => .ok [d]) (gC (fun d => .ok [d]) gN))) d)).bind fun as => .ok (.nx (setsD ρ ([2] ++ ([3] ++ [])) as))).bind (Fl.go (fun (ρ : Rho) => (iteR ((orT (((((((rget ρ 2).bind fun d => .ok [d]).bind lenD)).bind fun d => ((((((rget ρ 0).bind fun d => ((.ok (.int 0) : Res PyData)).bind fun d' => idxD d d')).bind fun d => .ok [d]).bind lenD)).bind fun d' => neD d d').bind toB)) (((((((rget ρ 3).bind fun d => .ok [d]).bind lenD)).bind fun d => ((((((rget ρ 0).bind fun d => ((.ok (.int 1) : Res PyData)).bind fun d' => idxD d d')).bind fun d => .ok [d]).bind lenD)).bind fun d' => neD d d').bind toB)))) ((fun (ρ : Rho) => .exc "BadPaper") ρ) ((fun (ρ : Rho) => .ok (.nx ρ)) ρ)).bind (Fl.go (fun (ρ : Rho) => (iteR ((orT ((((((((((compD (fun ρ => ((rget ρ 2).bind itD)) (fun d => .ok [d]) [8] (([("one", 8)] : List (Str × Nat)).map (·.2)) cYes (fun ρ => ((((rget ρ 8).bind fun d => ((.ok [] : Res (List PyData))).bind fun ds => .ok (d :: ds))).bind g_is_fraction)) ρ)).bind fun d => ((.ok [] : Res (List PyData))).bind fun ds => .ok (d :: ds))).bind allD)).bind toB)).bind fun b => .ok (!b))) ((((((((((compD (fun ρ => ((rget ρ 3).bind itD)) (fun d => .ok [d]) [8] (([("one", 8)] : List (Str × Nat)).map (·.2)) cYes (fun ρ => ((((rget ρ 8).bind fun d => ((.ok [] : Res (List PyData))).bind fun ds => .ok (d :: ds))).bind g_is_fraction)) ρ)).bind fun d => ((.ok [] : Res (List PyData))).bind fun ds => .ok (d :: ds))).bind allD)).bind toB)).bind fun b => .ok (!b))))) ((fun (ρ : Rho) => .exc "BadPaper") ρ) ((fun (ρ : Rho) => .ok (.nx ρ)) ρ)).bind (Fl.go (fun (ρ : Rho) => (setF 4 ((((((((rget ρ 0).bind fun d => ((.ok (.int 2) : Res PyData)).bind fun d' => idxD d d')).bind fun d => .ok [d]).bind lenD)).bind fun d => (rngL d).bind fun l => .ok (.tuple l))) ρ).bind (Fl.go (fun (ρ : Rho) => ((((((rget ρ 3).bind fun d => .ok [d]).bind lenD)).bind rngL)).bind fun ds => forL (fun d => .ok [d]) [5] [5, 6, 7] (fun (ρ : Rho) => (setF 6 ((((((compD (fun ρ => (((((rget ρ 2).bind fun d => .ok [d]).bind lenD)).bind rngL)) (fun d => .ok [d]) [8] (([("one", 8)] : List (Str × Nat)).map (·.2)) (fun (ρ : Rho) => (((((((rget ρ 0).bind fun d => (((((((rget ρ 5).bind fun d => ((.ok [] : Res (List PyData))).bind fun ds => .ok (d :: ds))).bind fun ds => (.ok (.tuple ds) : Res PyData))).bind fun d => (((rget ρ 4).bind fun d => (((rget ρ 8).bind fun d => ((.ok [] : Res (List PyData))).bind fun ds => .ok (d :: ds))).bind fun ds => .ok (d :: ds))).bind fun ds => .ok (d :: ds))).bind fun ds => .ok (d :: ds))).bind g_useful)).bind fun d => ((((.ok [] : Res (List PyData))).bind fun ds => (.ok (.list ds) : Res PyData))).bind fun d' => neD d d').bind toB)) (fun ρ => ((rget ρ 2).bind fun d => (rget ρ 8).bind fun d' => idxD d d')) ρ)).bind fun d => ((.ok [] : Res (List PyData))).bind fun ds => .ok (d :: ds))).bind g_whole_sum)) ρ).bind (Fl.go (fun (ρ : Rho) => (setF 7 (((((((((((((((rget ρ 0).bind fun d => ((.ok (.int 1) : Res PyData)).bind fun d' => idxD d d')).bind fun d => (rget ρ 5).bind fun d' => idxD d d')).bind fun d => ((.ok (.int 1) : Res PyData)).bind fun d' => idxD d d')).bind fun d => ((((.ok (.int 1) : Res PyData)).bind fun d => ((.ok [] : Res (List PyData))).bind fun ds => .ok (d :: ds))).bind fun ds => .ok (d :: ds))).bind fun ds => (.ok (.tuple ds) : Res PyData))).bind fun d => (((((rget ρ 3).bind fun d => (rget ρ 5).bind fun d' => idxD d d')).bind fun d => ((.ok [] : Res (List PyData))).bind fun ds => .ok (d :: ds))).bind fun ds => .ok (d :: ds))).bind g_plus)) ρ).bind (Fl.go (fun (ρ : Rho) => iteR ((((((((rget ρ 6).bind fun d => ((.ok (.int 0) : Res PyData)).bind fun d' => idxD d d')).bind fun d => (((rget ρ 7).bind fun d => ((.ok (.int 1) : Res PyData)).bind fun d' => idxD d d')).bind fun d' => mulD d d')).bind fun d => (((((rget ρ 7).bind fun d => ((.ok (.int 0) : Res PyData)).bind fun d' => idxD d d')).bind fun d => (((rget ρ 6).bind fun d => ((.ok (.int 1) : Res PyData)).bind fun d' => idxD d d')).bind fun d' => mulD d d')).bind fun d' => gtI d d').bind toB)) ((fun (ρ : Rho) => .exc "BadPaper") ρ) ((fun (ρ : Rho) => .ok (.nx ρ)) ρ)))))) ds (wipeD ρ [5, 6, 7]))))))))))))
def g_need_paper : List PyData → Res PyData := runF 10 F_need_paper
def F_worth : Rho → Res Fl := (fun (ρ : Rho) => ((((((rget ρ 0).bind fun d => ((.ok [] : Res (List PyData))).bind fun ds => .ok (d :: ds))).bind g_need_belt)).bind fun _ => .ok (.nx ρ)).bind (Fl.go (fun (ρ : Rho) => ((((((rget ρ 1).bind fun d => ((.ok [] : Res (List PyData))).bind fun ds => .ok (d :: ds))).bind g_need_count)).bind fun _ => .ok (.nx ρ)).bind (Fl.go (fun (ρ : Rho) => ((((((rget ρ 0).bind fun d => (((rget ρ 2).bind fun d => ((.ok [] : Res (List PyData))).bind fun ds => .ok (d :: ds))).bind fun ds => .ok (d :: ds))).bind g_need_paper)).bind fun _ => .ok (.nx ρ)).bind (Fl.go (fun (ρ : Rho) => ((((((((rget ρ 2).bind fun d => ((.ok (.int 0) : Res PyData)).bind fun d' => idxD d d')).bind fun d => ((.ok [] : Res (List PyData))).bind fun ds => .ok (d :: ds))).bind g_whole_sum)).bind fun d => (((((((rget ρ 2).bind fun d => ((.ok (.int 1) : Res PyData)).bind fun d' => idxD d d')).bind fun d => ((.ok [] : Res (List PyData))).bind fun ds => .ok (d :: ds))).bind g_whole_sum)).bind fun d' => .ok (.nx ((ρ.set 3 (some (.d d))).set 4 (some (.d d'))))).bind (Fl.go (fun (ρ : Rho) => (((((((((((((rget ρ 3).bind fun d => ((.ok (.int 0) : Res PyData)).bind fun d' => idxD d d')).bind fun d => (((rget ρ 1).bind fun d => ((.ok (.int 1) : Res PyData)).bind fun d' => addD d d')).bind fun d' => mulD d d')).bind fun d => (((((rget ρ 3).bind fun d => ((.ok (.int 1) : Res PyData)).bind fun d' => idxD d d')).bind fun d => ((.ok [] : Res (List PyData))).bind fun ds => .ok (d :: ds))).bind fun ds => .ok (d :: ds))).bind fun ds => (.ok (.tuple ds) : Res PyData))).bind fun d => ((((((((((.ok (.int 0) : Res PyData)).bind fun d => (((rget ρ 4).bind fun d => ((.ok (.int 0) : Res PyData)).bind fun d' => idxD d d')).bind fun d' => subD d d')).bind fun d => (((((rget ρ 4).bind fun d => ((.ok (.int 1) : Res PyData)).bind fun d' => idxD d d')).bind fun d => ((.ok [] : Res (List PyData))).bind fun ds => .ok (d :: ds))).bind fun ds => .ok (d :: ds))).bind fun ds => (.ok (.tuple ds) : Res PyData))).bind fun d => ((.ok [] : Res (List PyData))).bind fun ds => .ok (d :: ds))).bind fun ds => .ok (d :: ds))).bind g_plus)).bind fun d => .ok (.rt d))))))))))
def g_worth : List PyData → Res PyData := runF 5 F_worth
def F_times : Rho → Res Fl := (fun (ρ : Rho) => ((((((rget ρ 0).bind fun d => ((.ok (.int 0) : Res PyData)).bind fun d' => idxD d d')).bind fun d => (((rget ρ 1).bind fun d => ((.ok (.int 0) : Res PyData)).bind fun d' => idxD d d')).bind fun d' => mulD d d')).bind fun d => (((((rget ρ 0).bind fun d => ((.ok (.int 1) : Res PyData)).bind fun d' => idxD d d')).bind fun d => (((rget ρ 1).bind fun d => ((.ok (.int 1) : Res PyData)).bind fun d' => idxD d d')).bind fun d' => mulD d d')).bind fun d' => .ok (.nx ((ρ.set 2 (some (.d d))).set 3 (some (.d d'))))).bind (Fl.go (fun (ρ : Rho) => (setF 4 (((((rget ρ 2).bind fun d => (((rget ρ 3).bind fun d => ((.ok [] : Res (List PyData))).bind fun ds => .ok (d :: ds))).bind fun ds => .ok (d :: ds))).bind g_divisor)) ρ).bind (Fl.go (fun (ρ : Rho) => (((((((rget ρ 2).bind fun d => (rget ρ 4).bind fun d' => fdivD d d')).bind fun d => (((((rget ρ 3).bind fun d => (rget ρ 4).bind fun d' => fdivD d d')).bind fun d => ((.ok [] : Res (List PyData))).bind fun ds => .ok (d :: ds))).bind fun ds => .ok (d :: ds))).bind fun ds => (.ok (.tuple ds) : Res PyData))).bind fun d => .ok (.rt d))))))
def g_times : List PyData → Res PyData := runF 5 F_times
def F_need_chances : Rho → Res Fl := (fun (ρ : Rho) => (iteR ((orT (((((((rget ρ 0).bind fun d => .ok (.bool (isTup d)))).bind toB)).bind fun b => .ok (!b))) ((orT (((((((rget ρ 0).bind fun d => .ok [d]).bind lenD)).bind fun d => (rget ρ 1).bind fun d' => neD d d').bind toB)) ((((((((((compD (fun ρ => ((rget ρ 0).bind itD)) (fun d => .ok [d]) [2] (([("one", 2)] : List (Str × Nat)).map (·.2)) cYes (fun ρ => ((((rget ρ 2).bind fun d => ((.ok [] : Res (List PyData))).bind fun ds => .ok (d :: ds))).bind g_is_fraction)) ρ)).bind fun d => ((.ok [] : Res (List PyData))).bind fun ds => .ok (d :: ds))).bind allD)).bind toB)).bind fun b => .ok (!b))))))) ((fun (ρ : Rho) => .exc "BadChance") ρ) ((fun (ρ : Rho) => .ok (.nx ρ)) ρ)).bind (Fl.go (fun (ρ : Rho) => iteR ((((((((compD (fun ρ => ((rget ρ 0).bind itD)) (fun d => .ok [d]) [2] (([("one", 2)] : List (Str × Nat)).map (·.2)) cYes (fun ρ => ((((rget ρ 2).bind fun d => ((.ok (.int 0) : Res PyData)).bind fun d' => idxD d d')).bind fun d => (((rget ρ 2).bind fun d => ((.ok (.int 1) : Res PyData)).bind fun d' => idxD d d')).bind fun d' => gtI d d')) ρ)).bind fun d => ((.ok [] : Res (List PyData))).bind fun ds => .ok (d :: ds))).bind anyD)).bind toB)) ((fun (ρ : Rho) => .exc "BadChance") ρ) ((fun (ρ : Rho) => .ok (.nx ρ)) ρ))))
def g_need_chances : List PyData → Res PyData := runF 3 F_need_chances
def F_through_of : Rho → Res Fl := (fun (ρ : Rho) => ((.ok (.nx (ρ.set 4 (some (.dk [])))) : Res Fl)).bind (Fl.go (fun (ρ : Rho) => ((((rget ρ 3).bind itD)).bind fun ds => forL (fun d => .ok [d]) [5] [5, 6] (fun (ρ : Rho) => (((((((rget ρ 0).bind fun d => (((((rget ρ 1).bind fun d => ((.ok (.int 0) : Res PyData)).bind fun d' => idxD d d')).bind fun d => (((((rget ρ 1).bind fun d => ((.ok (.int 1) : Res PyData)).bind fun d' => idxD d d')).bind fun d => (((rget ρ 5).bind fun d => ((.ok [] : Res (List PyData))).bind fun ds => .ok (d :: ds))).bind fun ds => .ok (d :: ds))).bind fun ds => .ok (d :: ds))).bind fun ds => .ok (d :: ds))).bind g_useful)).bind itD)).bind fun ds => forL (fun d => .ok [d]) [6] [6] (fun (ρ : Rho) => dputF 4 (rget ρ 6) ((.ok (.bool true) : Res PyData)) ρ) ds (wipeD ρ [6])) ds (wipeD ρ [5, 6])).bind (Fl.go (fun (ρ : Rho) => (fun (ρ : Rho) => (setF 7 ((((((.ok (.int 1) : Res PyData)).bind fun d => ((((.ok (.int 1) : Res PyData)).bind fun d => ((.ok [] : Res (List PyData))).bind fun ds => .ok (d :: ds))).bind fun ds => .ok (d :: ds))).bind fun ds => (.ok (.tuple ds) : Res PyData))) ρ).bind (Fl.go (frzD 4 (fun (ρ : Rho) => ((keysD 4 ρ).bind fun ds => forL (fun d => .ok [d]) [6] [6] (fun (ρ : Rho) => setF 7 (((((rget ρ 7).bind fun d => (((((rget ρ 2).bind fun d => (rget ρ 6).bind fun d' => idxD d d')).bind fun d => ((.ok [] : Res (List PyData))).bind fun ds => .ok (d :: ds))).bind fun ds => .ok (d :: ds))).bind g_times)) ρ) ds (wipeD ρ [6])).bind (Fl.go (fun (ρ : Rho) => (fun (ρ : Rho) => (rget ρ 7).bind fun d => .ok (.rt d)) (wipeD ρ [6]))))))) (wipeD ρ [5, 6]))))))
def g_through_of : List PyData → Res PyData := runF 8 F_through_of
def F_need_all : Rho → Res Fl := (fun (ρ : Rho) => ((((((rget ρ 0).bind fun d => ((.ok [] : Res (List PyData))).bind fun ds => .ok (d :: ds))).bind g_need_belt)).bind fun _ => .ok (.nx ρ)).bind (Fl.go (fun (ρ : Rho) => ((((((rget ρ 0).bind fun d => (((rget ρ 1).bind fun d => ((.ok [] : Res (List PyData))).bind fun ds => .ok (d :: ds))).bind fun ds => .ok (d :: ds))).bind g_need_plan)).bind fun _ => .ok (.nx ρ)).bind (Fl.go (fun (ρ : Rho) => (((((rget ρ 2).bind fun d => ((((((((rget ρ 0).bind fun d => ((.ok (.int 1) : Res PyData)).bind fun d' => idxD d d')).bind fun d => .ok [d]).bind lenD)).bind fun d => ((.ok [] : Res (List PyData))).bind fun ds => .ok (d :: ds))).bind fun ds => .ok (d :: ds))).bind g_need_chances)).bind fun _ => .ok (.nx ρ))))))
def g_need_all : List PyData → Res PyData := runF 3 F_need_all
def F_gets_through : Rho → Res Fl := (fun (ρ : Rho) => ((((((rget ρ 0).bind fun d => (((rget ρ 1).bind fun d => (((rget ρ 2).bind fun d => ((.ok [] : Res (List PyData))).bind fun ds => .ok (d :: ds))).bind fun ds => .ok (d :: ds))).bind fun ds => .ok (d :: ds))).bind g_need_all)).bind fun _ => .ok (.nx ρ)).bind (Fl.go (fun (ρ : Rho) => ((((((rget ρ 0).bind fun d => (((rget ρ 1).bind fun d => (((rget ρ 3).bind fun d => ((((((.ok [] : Res (List PyData))).bind fun ds => (.ok (.tuple ds) : Res PyData))).bind fun d => ((.ok [] : Res (List PyData))).bind fun ds => .ok (d :: ds))).bind fun ds => .ok (d :: ds))).bind fun ds => .ok (d :: ds))).bind fun ds => .ok (d :: ds))).bind g_need_bottle)).bind fun _ => .ok (.nx ρ)).bind (Fl.go (fun (ρ : Rho) => (iteR ((((rget ρ 3).bind fun d => ((((.ok [] : Res (List PyData))).bind fun ds => (.ok (.tuple ds) : Res PyData))).bind fun d' => eqD d d').bind toB)) ((fun (ρ : Rho) => .exc "BadBottle") ρ) ((fun (ρ : Rho) => .ok (.nx ρ)) ρ)).bind (Fl.go (fun (ρ : Rho) => (((((rget ρ 0).bind fun d => (((rget ρ 1).bind fun d => (((rget ρ 2).bind fun d => (((rget ρ 3).bind fun d => ((.ok [] : Res (List PyData))).bind fun ds => .ok (d :: ds))).bind fun ds => .ok (d :: ds))).bind fun ds => .ok (d :: ds))).bind fun ds => .ok (d :: ds))).bind g_through_of)).bind fun d => .ok (.rt d))))))))
def g_gets_through : List PyData → Res PyData := runF 4 F_gets_through
def F_is_more : Rho → Res Fl := (fun (ρ : Rho) => (((((((rget ρ 0).bind fun d => ((.ok (.int 0) : Res PyData)).bind fun d' => idxD d d')).bind fun d => (((rget ρ 1).bind fun d => ((.ok (.int 1) : Res PyData)).bind fun d' => idxD d d')).bind fun d' => mulD d d')).bind fun d => (((((rget ρ 1).bind fun d => ((.ok (.int 0) : Res PyData)).bind fun d' => idxD d d')).bind fun d => (((rget ρ 0).bind fun d => ((.ok (.int 1) : Res PyData)).bind fun d' => idxD d d')).bind fun d' => mulD d d')).bind fun d' => gtI d d')).bind fun d => .ok (.rt d))
def g_is_more : List PyData → Res PyData := runF 2 F_is_more
def F_worst_of : Rho → Res Fl := (fun (ρ : Rho) => (setF 3 ((.ok .none : Res PyData)) ρ).bind (Fl.go (fun (ρ : Rho) => (((((((((rget ρ 0).bind fun d => ((.ok (.int 0) : Res PyData)).bind fun d' => idxD d d')).bind fun d => .ok [d]).bind lenD)).bind rngL)).bind fun ds => forL (fun d => .ok [d]) [4] [4, 5] (fun (ρ : Rho) => (setF 5 (((((rget ρ 0).bind fun d => (((rget ρ 1).bind fun d => (((rget ρ 2).bind fun d => (((((((rget ρ 4).bind fun d => ((.ok [] : Res (List PyData))).bind fun ds => .ok (d :: ds))).bind fun ds => (.ok (.tuple ds) : Res PyData))).bind fun d => ((.ok [] : Res (List PyData))).bind fun ds => .ok (d :: ds))).bind fun ds => .ok (d :: ds))).bind fun ds => .ok (d :: ds))).bind fun ds => .ok (d :: ds))).bind g_through_of)) ρ).bind (Fl.go (fun (ρ : Rho) => iteR ((orT (((rget ρ 3).bind fun d => .ok (isNone d))) (((((((rget ρ 5).bind fun d => (((((rget ρ 3).bind fun d => ((.ok (.int 1) : Res PyData)).bind fun d' => idxD d d')).bind fun d => ((.ok [] : Res (List PyData))).bind fun ds => .ok (d :: ds))).bind fun ds => .ok (d :: ds))).bind g_is_more)).bind toB)))) ((fun (ρ : Rho) => setF 3 (((((rget ρ 4).bind fun d => (((rget ρ 5).bind fun d => ((.ok [] : Res (List PyData))).bind fun ds => .ok (d :: ds))).bind fun ds => .ok (d :: ds))).bind fun ds => (.ok (.tuple ds) : Res PyData))) ρ) ρ) ((fun (ρ : Rho) => .ok (.nx ρ)) ρ)))) ds (wipeD ρ [4, 5])).bind (Fl.go (fun (ρ : Rho) => (fun (ρ : Rho) => (rget ρ 3).bind fun d => .ok (.rt d)) (wipeD ρ [4, 5]))))))
def g_worst_of : List PyData → Res PyData := runF 6 F_worst_of
def F_worst : Rho → Res Fl := (fun (ρ : Rho) => ((((((rget ρ 0).bind fun d => (((rget ρ 1).bind fun d => (((rget ρ 2).bind fun d => ((.ok [] : Res (List PyData))).bind fun ds => .ok (d :: ds))).bind fun ds => .ok (d :: ds))).bind fun ds => .ok (d :: ds))).bind g_need_all)).bind fun _ => .ok (.nx ρ)).bind (Fl.go (fun (ρ : Rho) => (((((rget ρ 0).bind fun d => (((rget ρ 1).bind fun d => (((rget ρ 2).bind fun d => ((.ok [] : Res (List PyData))).bind fun ds => .ok (d :: ds))).bind fun ds => .ok (d :: ds))).bind fun ds => .ok (d :: ds))).bind g_worst_of)).bind fun d => .ok (.rt d))))
def g_worst : List PyData → Res PyData := runF 3 F_worst
def F_law_least : Rho → Res Fl := (fun (ρ : Rho) => ((rget ρ 0).bind fun d => (noX ((gT (gC (fun d => .ok [d]) (gC (fun d => .ok [d]) gN))) d)).bind fun as => .ok (.nx (setsD ρ ([1] ++ ([2] ++ [])) as))).bind (Fl.go (fun (ρ : Rho) => (whileL (fun ρ => (((rget ρ 2).bind fun d => ((.ok (.int 0) : Res PyData)).bind fun d' => gtI d d').bind toB)) (fun (ρ : Rho) => (rget ρ 2).bind fun d => (((rget ρ 1).bind fun d => (rget ρ 2).bind fun d' => modD d d')).bind fun d' => .ok (.nx ((ρ.set 1 (some (.d d))).set 2 (some (.d d'))))) ((natOf (rget ρ 2)) + 2) ρ).bind (Fl.go (fun (ρ : Rho) => (fun (ρ : Rho) => (((((((((rget ρ 0).bind fun d => ((.ok (.int 0) : Res PyData)).bind fun d' => idxD d d')).bind fun d => (rget ρ 1).bind fun d' => fdivD d d')).bind fun d => (((((((rget ρ 0).bind fun d => ((.ok (.int 1) : Res PyData)).bind fun d' => idxD d d')).bind fun d => (rget ρ 1).bind fun d' => fdivD d d')).bind fun d => ((.ok [] : Res (List PyData))).bind fun ds => .ok (d :: ds))).bind fun ds => .ok (d :: ds))).bind fun ds => (.ok (.tuple ds) : Res PyData))).bind fun d => .ok (.rt d)) (wipeD ρ [2]))))))
def g_law_least : List PyData → Res PyData := runF 3 F_law_least
def F_law_product : Rho → Res Fl := (fun (ρ : Rho) => (((((((((((((rget ρ 0).bind fun d => ((.ok (.int 0) : Res PyData)).bind fun d' => idxD d d')).bind fun d => (((rget ρ 1).bind fun d => ((.ok (.int 0) : Res PyData)).bind fun d' => idxD d d')).bind fun d' => mulD d d')).bind fun d => (((((((rget ρ 0).bind fun d => ((.ok (.int 1) : Res PyData)).bind fun d' => idxD d d')).bind fun d => (((rget ρ 1).bind fun d => ((.ok (.int 1) : Res PyData)).bind fun d' => idxD d d')).bind fun d' => mulD d d')).bind fun d => ((.ok [] : Res (List PyData))).bind fun ds => .ok (d :: ds))).bind fun ds => .ok (d :: ds))).bind fun ds => (.ok (.tuple ds) : Res PyData))).bind fun d => ((.ok [] : Res (List PyData))).bind fun ds => .ok (d :: ds))).bind g_law_least)).bind fun d => .ok (.rt d))
def g_law_product : List PyData → Res PyData := runF 2 F_law_product
def F_law_sum : Rho → Res Fl := (fun (ρ : Rho) => (((((((((((((((rget ρ 0).bind fun d => ((.ok (.int 0) : Res PyData)).bind fun d' => idxD d d')).bind fun d => (((rget ρ 1).bind fun d => ((.ok (.int 1) : Res PyData)).bind fun d' => idxD d d')).bind fun d' => mulD d d')).bind fun d => (((((rget ρ 1).bind fun d => ((.ok (.int 0) : Res PyData)).bind fun d' => idxD d d')).bind fun d => (((rget ρ 0).bind fun d => ((.ok (.int 1) : Res PyData)).bind fun d' => idxD d d')).bind fun d' => mulD d d')).bind fun d' => addD d d')).bind fun d => (((((((rget ρ 0).bind fun d => ((.ok (.int 1) : Res PyData)).bind fun d' => idxD d d')).bind fun d => (((rget ρ 1).bind fun d => ((.ok (.int 1) : Res PyData)).bind fun d' => idxD d d')).bind fun d' => mulD d d')).bind fun d => ((.ok [] : Res (List PyData))).bind fun ds => .ok (d :: ds))).bind fun ds => .ok (d :: ds))).bind fun ds => (.ok (.tuple ds) : Res PyData))).bind fun d => ((.ok [] : Res (List PyData))).bind fun ds => .ok (d :: ds))).bind g_law_least)).bind fun d => .ok (.rt d))
def g_law_sum : List PyData → Res PyData := runF 2 F_law_sum
def F_law_less : Rho → Res Fl := (fun (ρ : Rho) => (((((((rget ρ 0).bind fun d => ((.ok (.int 0) : Res PyData)).bind fun d' => idxD d d')).bind fun d => (((rget ρ 1).bind fun d => ((.ok (.int 1) : Res PyData)).bind fun d' => idxD d d')).bind fun d' => mulD d d')).bind fun d => (((((rget ρ 1).bind fun d => ((.ok (.int 0) : Res PyData)).bind fun d' => idxD d d')).bind fun d => (((rget ρ 0).bind fun d => ((.ok (.int 1) : Res PyData)).bind fun d' => idxD d d')).bind fun d' => mulD d d')).bind fun d' => ltI d d')).bind fun d => .ok (.rt d))
def g_law_less : List PyData → Res PyData := runF 2 F_law_less
def F_law_chances : Rho → Res Fl := (fun (ρ : Rho) => (((.ok [] : Res (List PyData))).bind fun ds => .ok (.nx (ρ.set 2 (some (.mu ds))))).bind (Fl.go (fun (ρ : Rho) => ((((rget ρ 1).bind rngL)).bind fun ds => forL (fun d => .ok [d]) [3] [3, 4, 5] (fun (ρ : Rho) => (setF 4 (((((rget ρ 0).bind fun d => ((((((.ok (.int 600) : Res PyData)).bind fun d => (rget ρ 3).bind fun d' => addD d d')).bind fun d => ((.ok [] : Res (List PyData))).bind fun ds => .ok (d :: ds))).bind fun ds => .ok (d :: ds))).bind g_law_drawn)) ρ).bind (Fl.go (fun (ρ : Rho) => (setF 5 ((((.ok (.int 1) : Res PyData)).bind fun d => (((rget ρ 4).bind fun d => ((((((((.ok (.int 2) : Res PyData)).bind fun d => ((((.ok (.int 10) : Res PyData)).bind fun d => ((((.ok (.int 1000) : Res PyData)).bind fun d => ((.ok [] : Res (List PyData))).bind fun ds => .ok (d :: ds))).bind fun ds => .ok (d :: ds))).bind fun ds => .ok (d :: ds))).bind fun ds => (.ok (.list ds) : Res PyData))).bind fun d => (((((rget ρ 4).bind fun d => ((.ok (.int 1024) : Res PyData)).bind fun d' => fdivD d d')).bind fun d => ((.ok (.int 3) : Res PyData)).bind fun d' => modD d d')).bind fun d' => idxD d d')).bind fun d' => modD d d')).bind fun d' => addD d d')) ρ).bind (Fl.go (fun (ρ : Rho) => appF 2 (((((((((((((rget ρ 4).bind fun d => ((.ok (.int 4096) : Res PyData)).bind fun d' => fdivD d d')).bind fun d => (((rget ρ 5).bind fun d => ((.ok (.int 1) : Res PyData)).bind fun d' => addD d d')).bind fun d' => modD d d')).bind fun d => (((rget ρ 5).bind fun d => ((.ok [] : Res (List PyData))).bind fun ds => .ok (d :: ds))).bind fun ds => .ok (d :: ds))).bind fun ds => (.ok (.tuple ds) : Res PyData))).bind fun d => ((.ok [] : Res (List PyData))).bind fun ds => .ok (d :: ds))).bind g_law_least)) ρ))))) ds (wipeD ρ [3, 4, 5])).bind (Fl.go (fun (ρ : Rho) => (frzS 2 (fun (ρ : Rho) => (((((rget ρ 2).bind fun d => ((.ok [] : Res (List PyData))).bind fun ds => .ok (d :: ds))).bind tupleD)).bind fun d => .ok (.rt d))) (wipeD ρ [3, 4, 5]))))))
def g_law_chances : List PyData → Res PyData := runF 6 F_law_chances
def F_law_through : Rho → Res Fl := (fun (ρ : Rho) => (setF 4 ((((((.ok (.int 0) : Res PyData)).bind fun d => ((((.ok (.int 1) : Res PyData)).bind fun d => ((.ok [] : Res (List PyData))).bind fun ds => .ok (d :: ds))).bind fun ds => .ok (d :: ds))).bind fun ds => (.ok (.tuple ds) : Res PyData))) ρ).bind (Fl.go (fun (ρ : Rho) => (((((((((((((rget ρ 1).bind fun d => ((.ok (.int 0) : Res PyData)).bind fun d' => idxD d d')).bind fun d => .ok [d]).bind lenD)).bind fun d => ((.ok [] : Res (List PyData))).bind fun ds => .ok (d :: ds))).bind g_law_rows)).bind itD)).bind fun ds => forL (fun d => .ok [d]) [5] [5, 6, 7, 8, 9] (fun (ρ : Rho) => (((((((compD (fun ρ => ((rget ρ 5).bind itD)) (fun d => .ok [d]) [10] (([("_law_at", 10)] : List (Str × Nat)).map (·.2)) cYes (fun ρ => ((((rget ρ 1).bind fun d => ((.ok (.int 0) : Res PyData)).bind fun d' => idxD d d')).bind fun d => (rget ρ 10).bind fun d' => idxD d d')) ρ)).bind fun d => ((.ok [] : Res (List PyData))).bind fun ds => .ok (d :: ds))).bind tupleD)).bind fun d => ((((((.ok (.int 1) : Res PyData)).bind fun d => ((((.ok (.int 1) : Res PyData)).bind fun d => ((.ok [] : Res (List PyData))).bind fun ds => .ok (d :: ds))).bind fun ds => .ok (d :: ds))).bind fun ds => (.ok (.tuple ds) : Res PyData))).bind fun d' => .ok (.nx ((ρ.set 6 (some (.d d))).set 7 (some (.d d'))))).bind (Fl.go (fun (ρ : Rho) => ((((((rget ρ 1).bind fun d => ((.ok (.int 0) : Res PyData)).bind fun d' => idxD d d')).bind itD)).bind fun ds => forL (fun d => .ok [d]) [8] [8, 9] (fun (ρ : Rho) => (setF 9 (((rget ρ 2).bind fun d => (rget ρ 8).bind fun d' => idxD d d')) ρ).bind (Fl.go (fun (ρ : Rho) => setF 7 (((((rget ρ 7).bind fun d => ((((iteR ((((rget ρ 8).bind fun d => (rget ρ 6).bind fun d' => inD d d').bind toB)) (rget ρ 9) (((((((((rget ρ 9).bind fun d => ((.ok (.int 1) : Res PyData)).bind fun d' => idxD d d')).bind fun d => (((rget ρ 9).bind fun d => ((.ok (.int 0) : Res PyData)).bind fun d' => idxD d d')).bind fun d' => subD d d')).bind fun d => (((((rget ρ 9).bind fun d => ((.ok (.int 1) : Res PyData)).bind fun d' => idxD d d')).bind fun d => ((.ok [] : Res (List PyData))).bind fun ds => .ok (d :: ds))).bind fun ds => .ok (d :: ds))).bind fun ds => (.ok (.tuple ds) : Res PyData))))).bind fun d => ((.ok [] : Res (List PyData))).bind fun ds => .ok (d :: ds))).bind fun ds => .ok (d :: ds))).bind g_law_product)) ρ))) ds (wipeD ρ [8, 9])).bind (Fl.go (fun (ρ : Rho) => (fun (ρ : Rho) => iteR ((andT ((((((rget ρ 7).bind fun d => ((.ok (.int 0) : Res PyData)).bind fun d' => idxD d d')).bind fun d => ((.ok (.int 0) : Res PyData)).bind fun d' => gtI d d').bind toB)) (((((((rget ρ 0).bind fun d => (((rget ρ 1).bind fun d => (((rget ρ 3).bind fun d => (((rget ρ 6).bind fun d => ((.ok [] : Res (List PyData))).bind fun ds => .ok (d :: ds))).bind fun ds => .ok (d :: ds))).bind fun ds => .ok (d :: ds))).bind fun ds => .ok (d :: ds))).bind g_law_out)).bind fun d => .ok (isNone d))))) ((fun (ρ : Rho) => setF 4 (((((rget ρ 4).bind fun d => (((rget ρ 7).bind fun d => ((.ok [] : Res (List PyData))).bind fun ds => .ok (d :: ds))).bind fun ds => .ok (d :: ds))).bind g_law_sum)) ρ) ρ) ((fun (ρ : Rho) => .ok (.nx ρ)) ρ)) (wipeD ρ [8, 9])))))) ds (wipeD ρ [5, 6, 7, 8, 9])).bind (Fl.go (fun (ρ : Rho) => (fun (ρ : Rho) => (rget ρ 4).bind fun d => .ok (.rt d)) (wipeD ρ [5, 6, 7, 8, 9]))))))
def g_law_through : List PyData → Res PyData := runF 11 F_law_through
def F_law_worst : Rho → Res Fl := (fun (ρ : Rho) => (setF 3 ((.ok .none : Res PyData)) ρ).bind (Fl.go (fun (ρ : Rho) => (((((((((rget ρ 0).bind fun d => ((.ok (.int 0) : Res PyData)).bind fun d' => idxD d d')).bind fun d => .ok [d]).bind lenD)).bind rngL)).bind fun ds => forL (fun d => .ok [d]) [4] [4, 5] (fun (ρ : Rho) => (setF 5 (((((rget ρ 0).bind fun d => (((rget ρ 1).bind fun d => (((rget ρ 2).bind fun d => (((((((rget ρ 4).bind fun d => ((.ok [] : Res (List PyData))).bind fun ds => .ok (d :: ds))).bind fun ds => (.ok (.tuple ds) : Res PyData))).bind fun d => ((.ok [] : Res (List PyData))).bind fun ds => .ok (d :: ds))).bind fun ds => .ok (d :: ds))).bind fun ds => .ok (d :: ds))).bind fun ds => .ok (d :: ds))).bind g_law_through)) ρ).bind (Fl.go (fun (ρ : Rho) => iteR ((orT (((rget ρ 3).bind fun d => .ok (isNone d))) (((((((((rget ρ 3).bind fun d => ((.ok (.int 1) : Res PyData)).bind fun d' => idxD d d')).bind fun d => (((rget ρ 5).bind fun d => ((.ok [] : Res (List PyData))).bind fun ds => .ok (d :: ds))).bind fun ds => .ok (d :: ds))).bind g_law_less)).bind toB)))) ((fun (ρ : Rho) => setF 3 (((((rget ρ 4).bind fun d => (((rget ρ 5).bind fun d => ((.ok [] : Res (List PyData))).bind fun ds => .ok (d :: ds))).bind fun ds => .ok (d :: ds))).bind fun ds => (.ok (.tuple ds) : Res PyData))) ρ) ρ) ((fun (ρ : Rho) => .ok (.nx ρ)) ρ)))) ds (wipeD ρ [4, 5])).bind (Fl.go (fun (ρ : Rho) => (fun (ρ : Rho) => (rget ρ 3).bind fun d => .ok (.rt d)) (wipeD ρ [4, 5]))))))
def g_law_worst : List PyData → Res PyData := runF 6 F_law_worst
def F_safest : Rho → Res Fl := (fun (ρ : Rho) => ((((((rget ρ 0).bind fun d => ((.ok [] : Res (List PyData))).bind fun ds => .ok (d :: ds))).bind g_need_belt)).bind fun _ => .ok (.nx ρ)).bind (Fl.go (fun (ρ : Rho) => ((((((rget ρ 1).bind fun d => ((((((((rget ρ 0).bind fun d => ((.ok (.int 1) : Res PyData)).bind fun d' => idxD d d')).bind fun d => .ok [d]).bind lenD)).bind fun d => ((.ok [] : Res (List PyData))).bind fun ds => .ok (d :: ds))).bind fun ds => .ok (d :: ds))).bind g_need_chances)).bind fun _ => .ok (.nx ρ)).bind (Fl.go (fun (ρ : Rho) => (iteR ((orT (((((rget ρ 2).bind fun d => .ok (.bool (isBool d)))).bind toB)) ((orT (((((((rget ρ 2).bind fun d => .ok (.bool (isInt d)))).bind toB)).bind fun b => .ok (!b))) (((((chR leI leI ((.ok (.int 0) : Res PyData)) (rget ρ 2) ((.ok (.int 220) : Res PyData))).bind toB)).bind fun b => .ok (!b))))))) ((fun (ρ : Rho) => .exc "BadNumber") ρ) ((fun (ρ : Rho) => .ok (.nx ρ)) ρ)).bind (Fl.go (fun (ρ : Rho) => (setF 3 ((.ok .none : Res PyData)) ρ).bind (Fl.go (fun (ρ : Rho) => (((((((((((((rget ρ 0).bind fun d => ((.ok (.int 1) : Res PyData)).bind fun d' => idxD d d')).bind fun d => .ok [d]).bind lenD)).bind fun d => ((.ok [] : Res (List PyData))).bind fun ds => .ok (d :: ds))).bind g_all_rows)).bind itD)).bind fun ds => forL (fun d => .ok [d]) [4] [4, 5, 6, 7, 8, 9] (fun (ρ : Rho) => ((((((((((((rget ρ 0).bind fun d => ((.ok (.int 2) : Res PyData)).bind fun d' => idxD d d')).bind fun d => .ok [d]).bind lenD)).bind fun d => ((.ok [] : Res (List PyData))).bind fun ds => .ok (d :: ds))).bind g_all_rows)).bind itD)).bind fun ds => forL (fun d => .ok [d]) [5] [5, 6, 7, 8, 9] (fun (ρ : Rho) => (setF 6 (((((rget ρ 4).bind fun d => (((rget ρ 5).bind fun d => ((.ok [] : Res (List PyData))).bind fun ds => .ok (d :: ds))).bind fun ds => .ok (d :: ds))).bind fun ds => (.ok (.tuple ds) : Res PyData))) ρ).bind (Fl.go (fun (ρ : Rho) => (setF 7 (((((rget ρ 0).bind fun d => (((rget ρ 6).bind fun d => ((.ok [] : Res (List PyData))).bind fun ds => .ok (d :: ds))).bind fun ds => .ok (d :: ds))).bind g_cost_of)) ρ).bind (Fl.go (fun (ρ : Rho) => (iteR ((((rget ρ 7).bind fun d => (rget ρ 2).bind fun d' => gtI d d').bind toB)) ((fun (ρ : Rho) => .ok (.ct ρ)) ρ) ((fun (ρ : Rho) => .ok (.nx ρ)) ρ)).bind (Fl.go (fun (ρ : Rho) => (setF 8 (((((((rget ρ 0).bind fun d => (((rget ρ 6).bind fun d => (((rget ρ 1).bind fun d => ((.ok [] : Res (List PyData))).bind fun ds => .ok (d :: ds))).bind fun ds => .ok (d :: ds))).bind fun ds => .ok (d :: ds))).bind g_worst_of)).bind fun d => ((.ok (.int 1) : Res PyData)).bind fun d' => idxD d d')) ρ).bind (Fl.go (fun (ρ : Rho) => (setF 9 (((((rget ρ 7).bind fun d => ((((((((rget ρ 4).bind fun d => .ok [d]).bind lenD)).bind fun d => ((((rget ρ 5).bind fun d => .ok [d]).bind lenD)).bind fun d' => addD d d')).bind fun d => (((rget ρ 6).bind fun d => ((.ok [] : Res (List PyData))).bind fun ds => .ok (d :: ds))).bind fun ds => .ok (d :: ds))).bind fun ds => .ok (d :: ds))).bind fun ds => (.ok (.tuple ds) : Res PyData))) ρ).bind (Fl.go (fun (ρ : Rho) => iteR ((orT (((rget ρ 3).bind fun d => .ok (isNone d))) ((orT (((((((((rget ρ 3).bind fun d => ((.ok (.int 0) : Res PyData)).bind fun d' => idxD d d')).bind fun d => (((rget ρ 8).bind fun d => ((.ok [] : Res (List PyData))).bind fun ds => .ok (d :: ds))).bind fun ds => .ok (d :: ds))).bind g_is_more)).bind toB)) ((andT ((((((rget ρ 3).bind fun d => ((.ok (.int 0) : Res PyData)).bind fun d' => idxD d d')).bind fun d => (rget ρ 8).bind fun d' => eqD d d').bind toB)) ((((rget ρ 9).bind fun d => (((rget ρ 3).bind fun d => ((.ok (.int 1) : Res PyData)).bind fun d' => idxD d d')).bind fun d' => ltD d d').bind toB)))))))) ((fun (ρ : Rho) => setF 3 (((((rget ρ 8).bind fun d => (((rget ρ 9).bind fun d => ((.ok [] : Res (List PyData))).bind fun ds => .ok (d :: ds))).bind fun ds => .ok (d :: ds))).bind fun ds => (.ok (.tuple ds) : Res PyData))) ρ) ρ) ((fun (ρ : Rho) => .ok (.nx ρ)) ρ)))))))))))) ds (wipeD ρ [5, 6, 7, 8, 9])) ds (wipeD ρ [4, 5, 6, 7, 8, 9])).bind (Fl.go (fun (ρ : Rho) => (fun (ρ : Rho) => (((((rget ρ 3).bind fun d => ((.ok (.int 1) : Res PyData)).bind fun d' => idxD d d')).bind fun d => ((.ok (.int 2) : Res PyData)).bind fun d' => idxD d d')).bind fun d => .ok (.rt d)) (wipeD ρ [4, 5, 6, 7, 8, 9]))))))))))))
def g_safest : List PyData → Res PyData := runF 10 F_safest
def F_bad_share : Rho → Res Fl := (fun (ρ : Rho) => ((((((rget ρ 0).bind fun d => (((rget ρ 1).bind fun d => (((rget ρ 2).bind fun d => ((.ok [] : Res (List PyData))).bind fun ds => .ok (d :: ds))).bind fun ds => .ok (d :: ds))).bind fun ds => .ok (d :: ds))).bind g_need_all)).bind fun _ => .ok (.nx ρ)).bind (Fl.go (fun (ρ : Rho) => ((((((rget ρ 3).bind fun d => ((((((((rget ρ 0).bind fun d => ((.ok (.int 0) : Res PyData)).bind fun d' => idxD d d')).bind fun d => .ok [d]).bind lenD)).bind fun d => ((.ok [] : Res (List PyData))).bind fun ds => .ok (d :: ds))).bind fun ds => .ok (d :: ds))).bind g_need_chances)).bind fun _ => .ok (.nx ρ)).bind (Fl.go (fun (ρ : Rho) => (setF 4 ((((((.ok (.int 0) : Res PyData)).bind fun d => ((((.ok (.int 1) : Res PyData)).bind fun d => ((.ok [] : Res (List PyData))).bind fun ds => .ok (d :: ds))).bind fun ds => .ok (d :: ds))).bind fun ds => (.ok (.tuple ds) : Res PyData))) ρ).bind (Fl.go (fun (ρ : Rho) => (((((((((((((rget ρ 0).bind fun d => ((.ok (.int 0) : Res PyData)).bind fun d' => idxD d d')).bind fun d => .ok [d]).bind lenD)).bind fun d => ((.ok [] : Res (List PyData))).bind fun ds => .ok (d :: ds))).bind g_all_rows)).bind itD)).bind fun ds => forL (fun d => .ok [d]) [5] [5, 6, 7, 8] (fun (ρ : Rho) => (setF 6 ((((((.ok (.int 1) : Res PyData)).bind fun d => ((((.ok (.int 1) : Res PyData)).bind fun d => ((.ok [] : Res (List PyData))).bind fun ds => .ok (d :: ds))).bind fun ds => .ok (d :: ds))).bind fun ds => (.ok (.tuple ds) : Res PyData))) ρ).bind (Fl.go (fun (ρ : Rho) => ((((rget ρ 3).bind enumT)).bind fun ds => forL (gT (gC (fun d => .ok [d]) (gC (fun d => .ok [d]) gN))) ([7] ++ ([8] ++ [])) [7, 8] (fun (ρ : Rho) => setF 6 (((((rget ρ 6).bind fun d => ((((iteR ((((rget ρ 7).bind fun d => (rget ρ 5).bind fun d' => inD d d').bind toB)) (rget ρ 8) (((((((((rget ρ 8).bind fun d => ((.ok (.int 1) : Res PyData)).bind fun d' => idxD d d')).bind fun d => (((rget ρ 8).bind fun d => ((.ok (.int 0) : Res PyData)).bind fun d' => idxD d d')).bind fun d' => subD d d')).bind fun d => (((((rget ρ 8).bind fun d => ((.ok (.int 1) : Res PyData)).bind fun d' => idxD d d')).bind fun d => ((.ok [] : Res (List PyData))).bind fun ds => .ok (d :: ds))).bind fun ds => .ok (d :: ds))).bind fun ds => (.ok (.tuple ds) : Res PyData))))).bind fun d => ((.ok [] : Res (List PyData))).bind fun ds => .ok (d :: ds))).bind fun ds => .ok (d :: ds))).bind g_times)) ρ) ds (wipeD ρ [7, 8])).bind (Fl.go (fun (ρ : Rho) => (fun (ρ : Rho) => iteR ((((rget ρ 5).bind fun d => ((((.ok [] : Res (List PyData))).bind fun ds => (.ok (.tuple ds) : Res PyData))).bind fun d' => neD d d').bind toB)) ((fun (ρ : Rho) => setF 4 (((((rget ρ 4).bind fun d => (((((((rget ρ 6).bind fun d => (((((((rget ρ 0).bind fun d => (((rget ρ 1).bind fun d => (((rget ρ 2).bind fun d => (((rget ρ 5).bind fun d => ((.ok [] : Res (List PyData))).bind fun ds => .ok (d :: ds))).bind fun ds => .ok (d :: ds))).bind fun ds => .ok (d :: ds))).bind fun ds => .ok (d :: ds))).bind g_through_of)).bind fun d => ((.ok [] : Res (List PyData))).bind fun ds => .ok (d :: ds))).bind fun ds => .ok (d :: ds))).bind g_times)).bind fun d => ((.ok [] : Res (List PyData))).bind fun ds => .ok (d :: ds))).bind fun ds => .ok (d :: ds))).bind g_plus)) ρ) ρ) ((fun (ρ : Rho) => .ok (.nx ρ)) ρ)) (wipeD ρ [7, 8])))))) ds (wipeD ρ [5, 6, 7, 8])).bind (Fl.go (fun (ρ : Rho) => (fun (ρ : Rho) => (rget ρ 4).bind fun d => .ok (.rt d)) (wipeD ρ [5, 6, 7, 8]))))))))))
def g_bad_share : List PyData → Res PyData := runF 9 F_bad_share
end PX

/-! plain laws: how mirrors are reckoned -/
namespace PX
open PySem PySem.Spec PyProof.Rows
/-! ### steps -/
theorem rget_z {d : PyData} {r : Rho} : rget (some (.d d) :: r) 0 = .ok d := rfl
theorem rget_s {x : Option Sl} {r : Rho} {i : Nat} : rget (x :: r) (i + 1) = rget r i := rfl
theorem toB_b {b : Bool} : toB (.bool b) = .ok b := rfl
theorem addD_i {i j : Int} : addD (.int i) (.int j) = .ok (.int (i + j)) := rfl
theorem subD_i {i j : Int} : subD (.int i) (.int j) = .ok (.int (i - j)) := rfl
theorem cmpI_i {p : Int → Int → Bool} {i j : Int} : cmpI p (.int i) (.int j) = .ok (.bool (p i j)) := rfl
theorem negD_i {i : Int} : negD (.int i) = .ok (.int (-i)) := rfl
theorem modD_i {i j : Int} (h : 0 < j) : modD (.int i) (.int j) = .ok (.int (i % j)) := if_pos h
theorem fdivD_i {i j : Int} (h : 0 < j ∧ j.natAbs.log2 < 9000) : fdivD (.int i) (.int j) = .ok (.int (i / j)) := if_pos h
theorem mulD_i {i j : Int} (h : mulOk i j = true) : mulD (.int i) (.int j) = .ok (.int (i * j)) := if_pos h
theorem mulOk_l {i j : Int} (h : i.natAbs < 2 ^ 64) : mulOk i j = true := by
  unfold mulOk
  rw [decide_eq_true h]
  rfl
theorem mulOk_r {i j : Int} (h : j.natAbs < 2 ^ 64) : mulOk i j = true := by
  unfold mulOk
  rw [decide_eq_true h, Bool.or_true]
  rfl
theorem log2_lt {n k : Nat} (h : n < 2 ^ k) (hk : 0 < k) : n.log2 < k := by
  by_cases hn : n = 0
  · subst hn
    rw [Nat.log2_zero]
    exact hk
  · exact (Nat.log2_lt hn).mpr h
theorem mulOk_b {i j : Int} (h1 : i.natAbs < 2 ^ 900) (h2 : j.natAbs < 2 ^ 900) : mulOk i j = true := by
  have a := log2_lt h1 (by decide)
  have b := log2_lt h2 (by decide)
  unfold mulOk
  rw [decide_eq_true (show i.natAbs.log2 + j.natAbs.log2 < 1000000 by omega), Bool.or_true]
theorem iteR_t {α : Type} {k l : Res α} : iteR (.ok true) k l = k := rfl
theorem iteR_f {α : Type} {k l : Res α} : iteR (.ok false) k l = l := rfl
theorem iteR_b {α : Type} {b : Bool} {k l : Res α} : iteR (.ok b) k l = if b = true then k else l := rfl
theorem andR_b {b : Bool} {k : Res PyData} : andR (.ok (.bool b)) k = if b = true then k else .ok (.bool false) := rfl
theorem orR_b {b : Bool} {k : Res PyData} : orR (.ok (.bool b)) k = if b = true then .ok (.bool true) else k := rfl
theorem andT_b {b : Bool} {k : Res Bool} : andT (.ok b) k = if b = true then k else .ok false := rfl
theorem orT_b {b : Bool} {k : Res Bool} : orT (.ok b) k = if b = true then .ok true else k := rfl
theorem notR_b {b : Bool} : notR (.ok (.bool b)) = .ok (.bool (!b)) := rfl
theorem andR_bb {b c : Bool} : andR (.ok (.bool b)) (.ok (.bool c)) = .ok (.bool (b && c)) := by cases b <;> rfl
theorem orR_bb {b c : Bool} : orR (.ok (.bool b)) (.ok (.bool c)) = .ok (.bool (b || c)) := by cases b <;> rfl
theorem andT_bb {b c : Bool} : andT (.ok b) (.ok c) = .ok (b && c) := by cases b <;> rfl
theorem orT_bb {b c : Bool} : orT (.ok b) (.ok c) = .ok (b || c) := by cases b <;> rfl
theorem chR_bb {p p' : PyData → PyData → Res PyData} {x y z : PyData} {a b : Bool} (h1 : p x y = .ok (.bool a)) (h2 : p' y z = .ok (.bool b)) : chR p p' (.ok x) (.ok y) (.ok z) = .ok (.bool (a && b)) := by
  unfold chR
  simp only [Res.bind_ok, h1, toB_b, h2]
  cases a <;> rfl
theorem chR_i {p p' : Int → Int → Bool} {x y z : Int} : chR (cmpI p) (cmpI p') (.ok (.int x)) (.ok (.int y)) (.ok (.int z)) = .ok (.bool (p x y && p' y z)) := chR_bb rfl rfl
theorem setF_ok {i : Nat} {d : PyData} {ρ : Rho} : setF i (.ok d) ρ = .ok (.nx (ρ.set i (some (.d d)))) := rfl
theorem go_nx {G : Rho → Res Fl} {ρ : Rho} : Fl.go G (.nx ρ) = G ρ := rfl
theorem go_rt {G : Rho → Res Fl} {d : PyData} : Fl.go G (.rt d) = .ok (.rt d) := rfl
theorem go_ct {G : Rho → Res Fl} {ρ : Rho} : Fl.go G (.ct ρ) = .ok (.ct ρ) := rfl
theorem go_bk {G : Rho → Res Fl} {ρ : Rho} : Fl.go G (.bk ρ) = .ok (.bk ρ) := rfl
theorem wp_nx {ks : List Nat} {ρ : Rho} : Fl.wp ks (.nx ρ) = .ok (.nx (wipeD ρ ks)) := rfl
theorem wp_ct {ks : List Nat} {ρ : Rho} : Fl.wp ks (.ct ρ) = .ok (.nx (wipeD ρ ks)) := rfl
theorem wp_bk {ks : List Nat} {ρ : Rho} : Fl.wp ks (.bk ρ) = .ok (.bk (wipeD ρ ks)) := rfl
theorem wp_rt {ks : List Nat} {d : PyData} : Fl.wp ks (.rt d) = .ok (.rt d) := rfl
theorem bind_ite {α β : Type} {c : Prop} [Decidable c] {a b : Res α} {f : α → Res β} : (if c then a else b).bind f = if c then a.bind f else b.bind f := by split <;> rfl
theorem itD_t {ds : List PyData} : itD (.tuple ds) = .ok ds := rfl
theorem itD_l {ds : List PyData} : itD (.list ds) = .ok ds := rfl
theorem lenD_t {ds : List PyData} : lenD [.tuple ds] = .ok (.int (ds.length : Nat)) := rfl
theorem lenD_l {ds : List PyData} : lenD [.list ds] = .ok (.int (ds.length : Nat)) := rfl
theorem tupleD_l {ds : List PyData} : tupleD [.list ds] = .ok (.tuple ds) := rfl
theorem listD_t {ds : List PyData} : listD [.tuple ds] = .ok (.list ds) := rfl
theorem noX_ok' {α : Type} {a : α} : noX (.ok a) = .ok a := rfl
theorem setsD_nil {ρ : Rho} {vs : List PyData} : setsD ρ [] vs = ρ := by unfold setsD; rfl
theorem setsD_cons {ρ : Rho} {i : Nat} {is : List Nat} {v : PyData} {vs : List PyData} : setsD ρ (i :: is) (v :: vs) = setsD (ρ.set i (some (.d v))) is vs := rfl
theorem wipeD_nil {ρ : Rho} : wipeD ρ [] = ρ := rfl
theorem wipeD_cons {ρ : Rho} {v : Nat} {vs : List Nat} : wipeD ρ (v :: vs) = (wipeD ρ vs).set v none := rfl
theorem gT_t {f : List PyData → Res (List PyData)} {ds : List PyData} : gT f (.tuple ds) = f ds := rfl
theorem gC_c {f : PyData → Res (List PyData)} {fs : List PyData → Res (List PyData)} {d : PyData} {r : List PyData} : gC f fs (d :: r) = (f d).bind fun a => (fs r).bind fun b => .ok (a ++ b) := rfl
theorem gN_n : gN [] = .ok [] := rfl
theorem rngL_n {n : Int} (h : -1000000 ≤ n ∧ n ≤ 1000000) : rngL (.int n) = .ok (rngD n) := if_pos h
theorem rngD_nat {n : Nat} : rngD (n : Int) = (List.range n).map fun (i : Nat) => PyData.int (i : Int) := by unfold rngD; rw [Int.toNat_natCast]
theorem rngL_nat {n : Nat} (h : n ≤ 1000000) : rngL (.int (n : Int)) = .ok ((List.range n).map fun (i : Nat) => PyData.int (i : Int)) := by rw [rngL_n (by omega), rngD_nat]
theorem appF_mu {i : Nat} {ρ : Rho} {ds : List PyData} {d : PyData} (h : ρ[i]? = some (some (.mu ds))) (hz : ds.length < 1000000) : appF i (.ok d) ρ = .ok (.nx (ρ.set i (some (.mu (ds ++ [d]))))) := by
  unfold appF
  rw [h]
  simp only [Res.bind_ok, hz, if_true]
theorem frzS_mu {i : Nat} {F : Rho → Res Fl} {ρ : Rho} {ds : List PyData} (h : ρ[i]? = some (some (.mu ds))) (hz : ds.length ≤ 1000000) : frzS i F ρ = F (ρ.set i (some (.d (.list ds)))) := by
  unfold frzS
  rw [h]
  simp only [hz, if_true]
theorem startD_eq {n : Nat} {ds : List PyData} : startD n ds = ds.map (fun d => some (.d d)) ++ List.replicate (n - ds.length) none := rfl
theorem runF_eq {n : Nat} {F : Rho → Res Fl} {ds : List PyData} : runF n F ds = (F (startD n ds)).bind fun o => match o with
  | .rt d => .ok d
  | .nx _ => .ok .none
  | _ => .stuck := rfl
theorem atI_nat {α : Type} {xs : List α} {i : Nat} {d : α} (h : xs[i]? = some d) : L2.atI xs (i : Int) = some d := by
  have hl := (List.getElem?_eq_some_iff.mp h).1
  unfold L2.atI L2.ixN
  rw [if_pos (by omega), if_pos (by omega), Int.toNat_natCast]
  exact h
theorem idx_t {xs : List PyData} {i : Nat} {d : PyData} (h : xs[i]? = some d) : idxD (.tuple xs) (.int (i : Int)) = .ok d := by
  show (match L2.atI xs (i : Int) with | some d => Res.ok d | none => Res.stuck) = _
  rw [atI_nat h]
theorem idx_l {xs : List PyData} {i : Nat} {d : PyData} (h : xs[i]? = some d) : idxD (.list xs) (.int (i : Int)) = .ok d := by
  show (match L2.atI xs (i : Int) with | some d => Res.ok d | none => Res.stuck) = _
  rw [atI_nat h]
/-! ### comprehensions, loops -/
theorem compL_map {α : Type} {g : PyData → Res (List PyData)} {is : List Nat} {c : Rho → Res Bool} {fe : Rho → Res PyData} {ρ : Rho} (enc : α → PyData) (as : α → List PyData) (p : α → Bool) (q : α → PyData) : ∀ (xs : List α),
    (∀ x ∈ xs, g (enc x) = .ok (as x)) → (∀ x ∈ xs, c (setsD ρ is (as x)) = .ok (p x)) → (∀ x ∈ xs, p x = true → fe (setsD ρ is (as x)) = .ok (q x)) → compL g is c fe ρ (xs.map enc) = .ok ((xs.filter p).map q)
  | [], _, _, _ => rfl
  | x :: xs, h1, h2, h3 => by
    have ih := compL_map enc as p q xs (fun y hy => h1 y (List.mem_cons_of_mem _ hy)) (fun y hy => h2 y (List.mem_cons_of_mem _ hy)) (fun y hy => h3 y (List.mem_cons_of_mem _ hy))
    rw [List.map_cons]
    unfold compL
    simp only [h1 x List.mem_cons_self, h2 x List.mem_cons_self, Res.bind_ok, noX_ok']
    cases hp : p x with
    | true =>
      rw [if_pos rfl, h3 x List.mem_cons_self hp, ih, List.filter_cons_of_pos hp]
      rfl
    | false =>
      rw [if_neg (by decide), ih, List.filter_cons_of_neg (by simp [hp])]
theorem compD_map {α : Type} {src : Rho → Res (List PyData)} {g : PyData → Res (List PyData)} {is own : List Nat} {c : Rho → Res Bool} {fe : Rho → Res PyData} {ρ : Rho} (enc : α → PyData) (as : α → List PyData) (p : α → Bool) (q : α → PyData) (xs : List α)
    (h0 : src ρ = .ok (xs.map enc)) (h1 : ∀ x ∈ xs, g (enc x) = .ok (as x)) (h2 : ∀ x ∈ xs, c (setsD (wipeD ρ own) is (as x)) = .ok (p x)) (h3 : ∀ x ∈ xs, p x = true → fe (setsD (wipeD ρ own) is (as x)) = .ok (q x)) :
    compD src g is own c fe ρ = .ok (.list ((xs.filter p).map q)) := by
  unfold compD
  rw [h0]
  simp only [Res.bind_ok]
  rw [compL_map enc as p q xs h1 h2 h3]
  rfl
/-- without a test -/
theorem compD_all {α : Type} {src : Rho → Res (List PyData)} {g : PyData → Res (List PyData)} {is own : List Nat} {fe : Rho → Res PyData} {ρ : Rho} (enc : α → PyData) (as : α → List PyData) (q : α → PyData) (xs : List α)
    (h0 : src ρ = .ok (xs.map enc)) (h1 : ∀ x ∈ xs, g (enc x) = .ok (as x)) (h3 : ∀ x ∈ xs, fe (setsD (wipeD ρ own) is (as x)) = .ok (q x)) :
    compD src g is own cYes fe ρ = .ok (.list (xs.map q)) := by
  rw [compD_map enc as (fun _ => true) q xs h0 h1 (fun _ _ => rfl) (fun x hx _ => h3 x hx)]
  rw [List.filter_eq_self.mpr fun _ _ => rfl]
theorem forL_cons {g : PyData → Res (List PyData)} {is ks : List Nat} {F : Rho → Res Fl} {d : PyData} {ds as : List PyData} {ρ : Rho} (h : g d = .ok as) : forL g is ks F (d :: ds) ρ = ((F (setsD ρ is as)).bind (Fl.wp ks)).bind fun o => match o with
    | .nx ρ' => forL g is ks F ds ρ'
    | .bk ρ' => .ok (.nx ρ')
    | o => .ok o := by
  show (noX (g d)).bind _ = _
  rw [h]
  rfl
/-- one state is carried -/
theorem forL_fold {α β : Type} {g : PyData → Res (List PyData)} {is ks : List Nat} {F : Rho → Res Fl} (enc : α → PyData) (as : α → List PyData) (inv : β → Rho) (step : β → α → β) (P : β → Prop) : ∀ (xs : List α) (b : β), P b →
    (∀ x ∈ xs, g (enc x) = .ok (as x)) → (∀ b, P b → ∀ x ∈ xs, (F (setsD (inv b) is (as x))).bind (Fl.wp ks) = .ok (.nx (inv (step b x))) ∧ P (step b x)) → forL g is ks F (xs.map enc) (inv b) = .ok (.nx (inv (xs.foldl step b))) ∧ P (xs.foldl step b)
  | [], b, hb, _, _ => ⟨rfl, hb⟩
  | x :: xs, b, hb, h1, h2 => by
    obtain ⟨e, hb'⟩ := h2 b hb x List.mem_cons_self
    have ih := forL_fold enc as inv step P xs (step b x) hb' (fun y hy => h1 y (List.mem_cons_of_mem _ hy)) (fun c hc y hy => h2 c hc y (List.mem_cons_of_mem _ hy))
    rw [List.map_cons, forL_cons (h1 x List.mem_cons_self), e]
    exact ih
/-- a state is carried, and it may end with a result -/
def foldE {α β : Type} (step : β → α → Sum PyData β) : List α → β → Sum PyData β
  | [], b => .inr b
  | x :: xs, b => match step b x with
    | .inl d => .inl d
    | .inr b' => foldE step xs b'
def endE {β : Type} (inv : β → Rho) : Sum PyData β → Res Fl
  | .inl d => .ok (.rt d)
  | .inr b => .ok (.nx (inv b))
theorem forL_foldE {α β : Type} {g : PyData → Res (List PyData)} {is ks : List Nat} {F : Rho → Res Fl} (enc : α → PyData) (as : α → List PyData) (inv : β → Rho) (step : β → α → Sum PyData β) (P : β → Prop) : ∀ (xs : List α) (b : β), P b →
    (∀ x ∈ xs, g (enc x) = .ok (as x)) → (∀ b, P b → ∀ x ∈ xs, (F (setsD (inv b) is (as x))).bind (Fl.wp ks) = endE inv (step b x) ∧ ∀ b', step b x = .inr b' → P b') → forL g is ks F (xs.map enc) (inv b) = endE inv (foldE step xs b)
  | [], b, hb, _, _ => rfl
  | x :: xs, b, hb, h1, h2 => by
    obtain ⟨e, hb'⟩ := h2 b hb x List.mem_cons_self
    rw [List.map_cons, forL_cons (h1 x List.mem_cons_self), e]
    unfold foldE
    cases es : step b x with
    | inl d => rfl
    | inr b' => exact forL_foldE enc as inv step P xs b' (hb' b' es) (fun y hy => h1 y (List.mem_cons_of_mem _ hy)) (fun c hc y hy => h2 c hc y (List.mem_cons_of_mem _ hy))
theorem forL_run {α β : Type} {g : PyData → Res (List PyData)} {is ks : List Nat} {F : Rho → Res Fl} {ρ : Rho} {ds : List PyData} (xs : List α) (enc : α → PyData) (as : α → List PyData) (inv : β → Rho) (step : β → α → β) (P : β → Prop) (b : β) (hd : ds = xs.map enc) (hρ : ρ = inv b) (hb : P b)
    (h1 : ∀ x ∈ xs, g (enc x) = .ok (as x)) (h2 : ∀ b, P b → ∀ x ∈ xs, (F (setsD (inv b) is (as x))).bind (Fl.wp ks) = .ok (.nx (inv (step b x))) ∧ P (step b x)) : forL g is ks F ds ρ = .ok (.nx (inv (xs.foldl step b))) := by
  subst hd hρ
  exact (forL_fold enc as inv step P xs b hb h1 h2).1
theorem forL_runE {α β : Type} {g : PyData → Res (List PyData)} {is ks : List Nat} {F : Rho → Res Fl} {ρ : Rho} {ds : List PyData} (xs : List α) (enc : α → PyData) (as : α → List PyData) (inv : β → Rho) (step : β → α → Sum PyData β) (P : β → Prop) (b : β) (hd : ds = xs.map enc) (hρ : ρ = inv b) (hb : P b)
    (h1 : ∀ x ∈ xs, g (enc x) = .ok (as x)) (h2 : ∀ b, P b → ∀ x ∈ xs, (F (setsD (inv b) is (as x))).bind (Fl.wp ks) = endE inv (step b x) ∧ ∀ b', step b x = .inr b' → P b') : forL g is ks F ds ρ = endE inv (foldE step xs b) := by
  subst hd hρ
  exact forL_foldE enc as inv step P xs b hb h1 h2
/-- a list is gathered -/
theorem forL_app {α : Type} {g : PyData → Res (List PyData)} {is ks : List Nat} {F : Rho → Res Fl} {ρ : Rho} {ds : List PyData} (xs : List α) (enc : α → PyData) (as : α → List PyData) (inv : List PyData → Rho) (p : α → Bool) (q : α → PyData) (acc : List PyData) (hd : ds = xs.map enc) (hρ : ρ = inv acc) (hz : acc.length + xs.length ≤ 1000000)
    (h1 : ∀ x ∈ xs, g (enc x) = .ok (as x)) (h2 : ∀ acc : List PyData, acc.length < 1000000 → ∀ x ∈ xs, (F (setsD (inv acc) is (as x))).bind (Fl.wp ks) = .ok (.nx (inv (if p x = true then acc ++ [q x] else acc)))) : forL g is ks F ds ρ = .ok (.nx (inv (acc ++ (xs.filter p).map q))) := by
  subst hd hρ
  induction xs generalizing acc with
  | nil => rw [List.filter_nil, List.map_nil, List.map_nil, List.append_nil]; rfl
  | cons x xs ih =>
    rw [List.length_cons] at hz
    rw [List.map_cons, forL_cons (h1 x List.mem_cons_self), h2 acc (by omega) x List.mem_cons_self]
    have ih' := fun acc hz => ih acc hz (fun y hy => h1 y (List.mem_cons_of_mem _ hy)) (fun acc ha y hy => h2 acc ha y (List.mem_cons_of_mem _ hy))
    cases hp : p x with
    | true =>
      rw [if_pos rfl, List.filter_cons_of_pos hp]
      refine (ih' (acc ++ [q x]) (by rw [List.length_append, List.length_singleton]; omega)).trans ?_
      rw [List.append_assoc]
      rfl
    | false =>
      rw [if_neg (by decide), List.filter_cons_of_neg (by simp [hp])]
      exact ih' acc (by omega)
/-- the first that is found ends it -/
theorem forL_find {α : Type} {g : PyData → Res (List PyData)} {is ks : List Nat} {F : Rho → Res Fl} {ρ : Rho} {ds : List PyData} (xs : List α) (enc : α → PyData) (as : α → List PyData) (p : α → Bool) (r : α → PyData) (hd : ds = xs.map enc)
    (h1 : ∀ x ∈ xs, g (enc x) = .ok (as x)) (h2 : ∀ x ∈ xs, (F (setsD ρ is (as x))).bind (Fl.wp ks) = if p x = true then .ok (.rt (r x)) else .ok (.nx ρ)) : forL g is ks F ds ρ = match xs.find? p with
      | some x => .ok (.rt (r x))
      | none => .ok (.nx ρ) := by
  subst hd
  induction xs with
  | nil => rfl
  | cons x xs ih =>
    rw [List.map_cons, forL_cons (h1 x List.mem_cons_self), h2 x List.mem_cons_self]
    cases hp : p x with
    | true => rw [if_pos rfl, List.find?_cons_of_pos hp]; rfl
    | false =>
      rw [if_neg (by decide), List.find?_cons_of_neg (by simp [hp])]
      exact ih (fun y hy => h1 y (List.mem_cons_of_mem _ hy)) (fun y hy => h2 y (List.mem_cons_of_mem _ hy))
/-- nothing is carried, nothing is handed back -/
theorem forL_same {α : Type} {g : PyData → Res (List PyData)} {is ks : List Nat} {F : Rho → Res Fl} {ρ : Rho} (enc : α → PyData) (as : α → List PyData) : ∀ (xs : List α),
    (∀ x ∈ xs, g (enc x) = .ok (as x)) → (∀ x ∈ xs, (F (setsD ρ is (as x))).bind (Fl.wp ks) = .ok (.nx ρ)) → forL g is ks F (xs.map enc) ρ = .ok (.nx ρ)
  | [], _, _ => rfl
  | x :: xs, h1, h2 => by
    rw [List.map_cons, forL_cons (h1 x List.mem_cons_self), h2 x List.mem_cons_self]
    exact forL_same enc as xs (fun y hy => h1 y (List.mem_cons_of_mem _ hy)) (fun y hy => h2 y (List.mem_cons_of_mem _ hy))
theorem tupleD_t {ds : List PyData} : tupleD [.tuple ds] = .ok (.tuple ds) := rfl
theorem listD_l {ds : List PyData} : listD [.list ds] = .ok (.list ds) := rfl
theorem allD_b {α : Type} {f : α → Bool} {l : List α} : allD [.list (l.map fun x => .bool (f x))] = .ok (.bool (l.all f)) := by
  unfold allD
  simp only [boolsOf_map, List.all_map]
  rfl
theorem anyD_b {α : Type} {f : α → Bool} {l : List α} : anyD [.list (l.map fun x => .bool (f x))] = .ok (.bool (l.any f)) := by
  unfold anyD
  simp only [boolsOf_map, List.any_map]
  rfl
theorem sumD_i {α : Type} {f : α → Int} {l : List α} : sumD [.list (l.map fun x => .int (f x))] = .ok (.int (l.map f).sum) := by
  unfold sumD
  simp only [intsOf_map]
theorem isInt_all : (∀ i, isInt (.int i) = true) ∧ (∀ b, isInt (.bool b) = true) ∧ (∀ x, isInt (.tuple x) = false) ∧ (∀ x, isInt (.list x) = false) ∧ (∀ x, isInt (.str x) = false) ∧ isInt .none = false := ⟨fun _ => rfl, fun _ => rfl, fun _ => rfl, fun _ => rfl, fun _ => rfl, rfl⟩
theorem isBool_all : (∀ i, isBool (.int i) = false) ∧ (∀ b, isBool (.bool b) = true) ∧ (∀ x, isBool (.tuple x) = false) ∧ (∀ x, isBool (.list x) = false) ∧ (∀ x, isBool (.str x) = false) ∧ isBool .none = false := ⟨fun _ => rfl, fun _ => rfl, fun _ => rfl, fun _ => rfl, fun _ => rfl, rfl⟩
theorem isTup_all : (∀ i, isTup (.int i) = false) ∧ (∀ b, isTup (.bool b) = false) ∧ (∀ x, isTup (.tuple x) = true) ∧ (∀ x, isTup (.list x) = false) ∧ (∀ x, isTup (.str x) = false) ∧ isTup .none = false := ⟨fun _ => rfl, fun _ => rfl, fun _ => rfl, fun _ => rfl, fun _ => rfl, rfl⟩
theorem isLst_all : (∀ i, isLst (.int i) = false) ∧ (∀ b, isLst (.bool b) = false) ∧ (∀ x, isLst (.tuple x) = false) ∧ (∀ x, isLst (.list x) = true) ∧ (∀ x, isLst (.str x) = false) ∧ isLst .none = false := ⟨fun _ => rfl, fun _ => rfl, fun _ => rfl, fun _ => rfl, fun _ => rfl, rfl⟩
theorem isStr_all : (∀ i, isStr (.int i) = false) ∧ (∀ b, isStr (.bool b) = false) ∧ (∀ x, isStr (.tuple x) = false) ∧ (∀ x, isStr (.list x) = false) ∧ (∀ x, isStr (.str x) = true) ∧ isStr .none = false := ⟨fun _ => rfl, fun _ => rfl, fun _ => rfl, fun _ => rfl, fun _ => rfl, rfl⟩
theorem isNone_all : (∀ i, isNone (.int i) = false) ∧ (∀ b, isNone (.bool b) = false) ∧ (∀ x, isNone (.tuple x) = false) ∧ (∀ x, isNone (.list x) = false) ∧ (∀ x, isNone (.str x) = false) ∧ isNone .none = true := ⟨fun _ => rfl, fun _ => rfl, fun _ => rfl, fun _ => rfl, fun _ => rfl, rfl⟩
/-- the comparisons -/
theorem cmp_all : (∀ i j, ltI (.int i) (.int j) = .ok (.bool (decide (i < j)))) ∧ (∀ i j, leI (.int i) (.int j) = .ok (.bool (decide (i ≤ j)))) ∧ (∀ i j, gtI (.int i) (.int j) = .ok (.bool (decide (j < i)))) ∧ (∀ i j, geI (.int i) (.int j) = .ok (.bool (decide (j ≤ i)))) := ⟨fun _ _ => rfl, fun _ _ => rfl, fun _ _ => rfl, fun _ _ => rfl⟩
theorem bl_all : (∀ b, (true && b) = b) ∧ (∀ b, (b && true) = b) ∧ (∀ b, (false && b) = false) ∧ (∀ b, (b && false) = false) ∧ (∀ b, (true || b) = true) ∧ (∀ b, (b || true) = true) ∧ (∀ b, (false || b) = b) ∧ (∀ b, (b || false) = b) ∧ (!true) = false ∧ (!false) = true ∧ (∀ b, (!!b) = b) := by
  refine ⟨?_, ?_, ?_, ?_, ?_, ?_, ?_, ?_, rfl, rfl, ?_⟩ <;> intro b <;> cases b <;> rfl
theorem ls_all : (∀ {α β : Type} (f : α → β) (x : α) (l : List α), (x :: l).map f = f x :: l.map f) ∧ (∀ {α β : Type} (f : α → β), ([] : List α).map f = []) ∧ (∀ {α : Type} (x : α) (l : List α), (x :: l).length = l.length + 1) ∧ (∀ {α : Type}, ([] : List α).length = 0) ∧ (∀ {α : Type} (x y : α) (l : List α), (x :: l).set 0 y = y :: l) ∧
    (∀ {α : Type} (x y : α) (l : List α) (n : Nat), (x :: l).set (n + 1) y = x :: l.set n y) ∧ (∀ {α : Type} (x : α) (l m : List α), (x :: l) ++ m = x :: (l ++ m)) ∧ (∀ {α : Type} (l : List α), [] ++ l = l) ∧ (∀ {α : Type} (x : α) (n : Nat), List.replicate (n + 1) x = x :: List.replicate n x) ∧ (∀ {α : Type} (x : α), List.replicate 0 x = []) ∧ (∀ {α : Type} (x : α) (l : List α), (x :: l)[0]? = some x) ∧ (∀ {α : Type} (x : α) (l : List α) (n : Nat), (x :: l)[n + 1]? = l[n]?) :=
  ⟨fun _ _ _ => rfl, fun _ => rfl, fun _ _ => rfl, rfl, fun _ _ _ => rfl, fun _ _ _ _ => rfl, fun _ _ _ => rfl, fun _ => rfl, fun _ _ => rfl, fun _ => rfl, fun _ _ => rfl, fun _ _ _ => rfl⟩
theorem start_nil {n : Nat} : startD n [] = List.replicate n none := rfl
theorem start_cons {n : Nat} {d : PyData} {ds : List PyData} : startD (n + 1) (d :: ds) = some (.d d) :: startD n ds := by
  unfold startD
  rw [List.map_cons, List.cons_append, List.length_cons, Nat.add_sub_add_right]
theorem lenD_tm {α : Type} {f : α → PyData} {l : List α} : lenD [.tuple (l.map f)] = .ok (.int (l.length : Nat)) := by rw [lenD_t, List.length_map]
theorem lenD_lm {α : Type} {f : α → PyData} {l : List α} : lenD [.list (l.map f)] = .ok (.int (l.length : Nat)) := by rw [lenD_l, List.length_map]
theorem len_lit : (∀ a, lenD [.tuple [a]] = .ok (.int 1)) ∧ (∀ a b, lenD [.tuple [a, b]] = .ok (.int 2)) ∧ (∀ a b c, lenD [.tuple [a, b, c]] = .ok (.int 3)) ∧ (∀ a b c d, lenD [.tuple [a, b, c, d]] = .ok (.int 4)) ∧ lenD [.tuple []] = .ok (.int 0) := ⟨fun _ => rfl, fun _ _ => rfl, fun _ _ _ => rfl, fun _ _ _ _ => rfl, rfl⟩
theorem dec_lit : (∀ h : Decidable True, @decide True h = true) ∧ (∀ h : Decidable False, @decide False h = false) := ⟨fun _ => decide_eq_true trivial, fun _ => decide_eq_false id⟩
/-- the steps of straight code -/
theorem px : (type_of% @runF_eq) ∧ (type_of% @start_nil) ∧ (type_of% @start_cons) ∧ (type_of% @rget_z) ∧ (type_of% @rget_s) ∧ (type_of% @toB_b) ∧ (type_of% @addD_i) ∧ (type_of% @subD_i) ∧ (type_of% @negD_i) ∧ (type_of% @iteR_t) ∧ (type_of% @iteR_f) ∧ (type_of% @andR_bb) ∧ (type_of% @orR_bb) ∧ (type_of% @andT_bb) ∧ (type_of% @orT_bb) ∧ (type_of% @notR_b) ∧ (type_of% @chR_i) ∧ (type_of% @setF_ok) ∧ (type_of% @go_nx) ∧ (type_of% @go_rt) ∧ (type_of% @go_ct) ∧ (type_of% @go_bk) ∧ (type_of% @wp_nx) ∧ (type_of% @wp_ct) ∧ (type_of% @wp_bk) ∧ (type_of% @wp_rt) ∧ (type_of% @itD_t) ∧ (type_of% @itD_l) ∧ (type_of% @lenD_tm) ∧ (type_of% @lenD_lm) ∧ (type_of% @tupleD_l) ∧ (type_of% @tupleD_t) ∧ (type_of% @listD_t) ∧ (type_of% @listD_l) ∧ (type_of% @setsD_nil) ∧ (type_of% @setsD_cons) ∧ (type_of% @wipeD_nil) ∧ (type_of% @wipeD_cons) ∧ (type_of% @gT_t) ∧ (type_of% @gC_c) ∧ (type_of% @gN_n) ∧ (type_of% @allD_b) ∧ (type_of% @anyD_b) ∧ (type_of% @sumD_i) ∧ (type_of% @noX_ok') ∧ (type_of% @isInt_all) ∧ (type_of% @isBool_all) ∧ (type_of% @isTup_all) ∧ (type_of% @isLst_all) ∧ (type_of% @isStr_all) ∧ (type_of% @isNone_all) ∧ type_of% cmp_all ∧ type_of% len_lit ∧ type_of% dec_lit ∧ type_of% bl_all ∧ type_of% @ls_all := ⟨@runF_eq, @start_nil, @start_cons, @rget_z, @rget_s, @toB_b, @addD_i, @subD_i, @negD_i, @iteR_t, @iteR_f, @andR_bb, @orR_bb, @andT_bb, @orT_bb, @notR_b, @chR_i, @setF_ok, @go_nx, @go_rt, @go_ct, @go_bk, @wp_nx, @wp_ct, @wp_bk, @wp_rt, @itD_t, @itD_l, @lenD_tm, @lenD_lm, @tupleD_l, @tupleD_t, @listD_t, @listD_l, @setsD_nil, @setsD_cons, @wipeD_nil, @wipeD_cons, @gT_t, @gC_c, @gN_n, @allD_b, @anyD_b, @sumD_i, @noX_ok', @isInt_all, @isBool_all, @isTup_all, @isLst_all, @isStr_all, @isNone_all, cmp_all, len_lit, dec_lit, bl_all, @ls_all⟩
theorem addD_ll {xs ys : List PyData} (h : xs.length + ys.length ≤ 1000) : addD (.list xs) (.list ys) = .ok (.list (xs ++ ys)) := if_pos (by rw [sizeLine_eq]; omega)
theorem addD_tt {xs ys : List PyData} (h : xs.length + ys.length ≤ 1000) : addD (.tuple xs) (.tuple ys) = .ok (.tuple (xs ++ ys)) := if_pos (by rw [sizeLine_eq]; omega)
theorem idx_0 {a : PyData} {r : List PyData} : idxD (.tuple (a :: r)) (.int 0) = .ok a := idx_t (i := 0) rfl
theorem idx_1 {a b : PyData} {r : List PyData} : idxD (.tuple (a :: b :: r)) (.int 1) = .ok b := idx_t (i := 1) rfl
theorem idx_2 {a b c : PyData} {r : List PyData} : idxD (.tuple (a :: b :: c :: r)) (.int 2) = .ok c := idx_t (i := 2) rfl
theorem idx_3 {a b c d : PyData} {r : List PyData} : idxD (.tuple (a :: b :: c :: d :: r)) (.int 3) = .ok d := idx_t (i := 3) rfl
theorem beq_dec (i j : Int) : (i == j) = decide (i = j) := by
  by_cases h : i = j
  · rw [decide_eq_true h, h, beq_self_eq_true]
  · rw [decide_eq_false h, beq_eq_false_iff_ne.mpr h]
theorem eqD_i {i j : Int} : eqD (.int i) (.int j) = .ok (.bool (decide (i = j))) := by
  unfold eqD
  rw [if_pos (by simp [PyData.depth])]
  show Res.ok (PyData.bool (i == j)) = _
  rw [beq_dec]
theorem neD_i {i j : Int} : neD (.int i) (.int j) = .ok (.bool (!decide (i = j))) := by
  unfold neD
  rw [if_pos (by simp [PyData.depth])]
  show Res.ok (PyData.bool (!(i == j))) = _
  rw [beq_dec]
/-! ### == with an empty row -/
theorem eqD_nilT {xs : List PyData} : eqD (.tuple xs) (.tuple []) = .ok (.bool xs.isEmpty) := by
  unfold eqD
  rw [if_pos (by simp [PyData.depth, PyData.depthAll])]
  cases xs <;> rfl
theorem neD_nilT {xs : List PyData} : neD (.tuple xs) (.tuple []) = .ok (.bool (!xs.isEmpty)) := by
  unfold neD
  rw [if_pos (by simp [PyData.depth, PyData.depthAll])]
  cases xs <;> rfl
theorem eqD_nilL {xs : List PyData} : eqD (.list xs) (.list []) = .ok (.bool xs.isEmpty) := by
  unfold eqD
  rw [if_pos (by simp [PyData.depth, PyData.depthAll])]
  cases xs <;> rfl
theorem neD_nilL {xs : List PyData} : neD (.list xs) (.list []) = .ok (.bool (!xs.isEmpty)) := by
  unfold neD
  rw [if_pos (by simp [PyData.depth, PyData.depthAll])]
  cases xs <;> rfl
theorem px2 : (type_of% @idx_0) ∧ (type_of% @idx_1) ∧ (type_of% @idx_2) ∧ (type_of% @idx_3) ∧ (type_of% @eqD_i) ∧ (type_of% @neD_i) ∧ (type_of% @eqD_nilT) ∧ (type_of% @neD_nilT) ∧ (type_of% @eqD_nilL) ∧ (type_of% @neD_nilL) := ⟨@idx_0, @idx_1, @idx_2, @idx_3, @eqD_i, @neD_i, @eqD_nilT, @neD_nilT, @eqD_nilL, @neD_nilL⟩
/-! ### first defs -/
theorem is_count_i (n lo hi : Int) : g_is_count [.int n, .int lo, .int hi] = .ok (.bool (decide (lo ≤ n) && decide (n ≤ hi))) := by
  unfold g_is_count F_is_count
  simp only [px, Res.bind_ok]
end PX

/-! plain laws: belts -/
namespace PX
open PySem PySem.Spec PyProof.Rows
abbrev Spt := Int × Int × List Nat
structure Bel where
  fs : List Int
  ss : List Spt
  ks : List (Int × Int)
def eN (l : List Nat) : PyData := .tuple (l.map fun n : Nat => .int (n : Int))
def eZ (l : List Int) : PyData := .tuple (l.map fun n => .int n)
def eS (s : Spt) : PyData := .tuple [.int s.1, .int s.2.1, eN s.2.2]
def eK (k : Int × Int) : PyData := .tuple [.int k.1, .int k.2]
def eB (b : Bel) : PyData := .tuple [eZ b.fs, .tuple (b.ss.map eS), .tuple (b.ks.map eK)]
def Ris (l : List Nat) (m : Nat) : Prop := (∀ x ∈ l, x < m) ∧ l.Pairwise (· < ·)
theorem pair_zip : ∀ {l : List Nat}, l.Pairwise (· < ·) → ∀ p ∈ l.dropLast.zip l.tail, p.1 < p.2
  | [], _, p, h => by cases h
  | [a], _, p, h => by cases h
  | a :: b :: r, h, p, hp => by
    obtain ⟨h1, h2⟩ := List.pairwise_cons.mp h
    rcases List.mem_cons.mp (show p ∈ (a, b) :: ((b :: r).dropLast.zip (b :: r).tail) from hp) with e | q
    · subst e; exact h1 b List.mem_cons_self
    · exact pair_zip h2 p q
theorem cut_init {α : Type} (l : List α) : cutD l none (some (-1)) = l.dropLast := by
  unfold cutD
  have e1 : HT.sIx l.length 0 none = 0 := rfl
  have e2 : HT.sIx l.length l.length (some (-1)) = l.length - 1 := by
    unfold HT.sIx
    simp
    try omega
  rw [e1, e2]
  simp [List.dropLast_eq_take]
theorem cut_tail {α : Type} (l : List α) : cutD l (some 1) none = l.tail := by
  unfold cutD
  have e1 : HT.sIx l.length 0 (some 1) = min 1 l.length := by
    unfold HT.sIx
    simp
    try omega
  have e2 : HT.sIx l.length l.length none = l.length := rfl
  rw [e1, e2]
  cases l with
  | nil => rfl
  | cons a r => simp
theorem is_rising_ok {l : List Nat} {m : Nat} (h : Ris l m) : g_is_rising [eN l, .int (m : Int)] = .ok (.bool true) := by
  have e1 : (l.all fun n : Nat => decide (0 ≤ (n : Int)) && decide ((n : Int) ≤ (m : Int) - 1)) = true := List.all_eq_true.mpr fun n hn => by
    have := h.1 n hn
    simp only [Bool.and_eq_true, decide_eq_true_eq]
    omega
  have e2 : ((l.dropLast.zip l.tail).all fun p => decide ((p.1 : Int) < (p.2 : Int))) = true := List.all_eq_true.mpr fun p hp => by
    have := pair_zip h.2 p hp
    simp only [decide_eq_true_eq]
    omega
  unfold g_is_rising F_is_rising eN
  simp only [px, Res.bind_ok]
  rw [compD_all (fun n : Nat => PyData.int (n : Int)) (fun n => [.int (n : Int)]) (fun n => .bool (decide (0 ≤ (n : Int)) && decide ((n : Int) ≤ (m : Int) - 1))) l rfl (fun _ _ => rfl) fun n _ => by
    simp only [px, Res.bind_ok, is_count_i]]
  simp only [px, Res.bind_ok, e1]
  rw [compD_all (fun p : Nat × Nat => PyData.tuple [.int (p.1 : Int), .int (p.2 : Int)]) (fun p => [.int (p.1 : Int), .int (p.2 : Int)]) (fun p => .bool (decide ((p.1 : Int) < (p.2 : Int)))) (l.dropLast.zip l.tail) ?_ (fun _ _ => rfl) fun p _ => by
    simp only [px, Res.bind_ok]]
  · simp only [px, Res.bind_ok, e2]
  · simp only [px, Res.bind_ok, toI, sliceD, cut_init, cut_tail, zipD, ← List.map_dropLast, ← List.map_tail, List.zip_map, List.map_map]
    rfl
structure Bel.Ok (b : Bel) : Prop where
  f1 : 1 ≤ b.fs.length
  f6 : b.fs.length ≤ 6
  s8 : b.ss.length ≤ 8
  k3 : b.ks.length ≤ 3
  fp : ∀ p ∈ b.fs, 0 ≤ p ∧ p ≤ 99
  sp : ∀ s ∈ b.ss, (0 ≤ s.1 ∧ s.1 ≤ 99) ∧ (1 ≤ s.2.1 ∧ s.2.1 ≤ 20) ∧ Ris s.2.2 b.fs.length
  kp : ∀ k ∈ b.ks, (0 ≤ k.1 ∧ k.1 ≤ 99) ∧ 0 ≤ k.2 ∧ k.2 ≤ 20
theorem dec_and {p q : Prop} [Decidable p] [Decidable q] (h : p ∧ q) : (decide p && decide q) = true := by rw [decide_eq_true h.1, decide_eq_true h.2]; rfl
theorem is_spot_ok {s : Spt} {m : Nat} (h : (0 ≤ s.1 ∧ s.1 ≤ 99) ∧ (1 ≤ s.2.1 ∧ s.2.1 ≤ 20) ∧ Ris s.2.2 m) : g_is_spot [eS s, .int (m : Int)] = .ok (.bool true) := by
  unfold g_is_spot F_is_spot eS
  simp only [px, px2, Res.bind_ok, is_count_i, is_rising_ok h.2.2, dec_and h.1, dec_and h.2.1]
theorem is_kicker_ok {k : Int × Int} (h : (0 ≤ k.1 ∧ k.1 ≤ 99) ∧ 0 ≤ k.2 ∧ k.2 ≤ 20) : g_is_kicker [eK k] = .ok (.bool true) := by
  unfold g_is_kicker F_is_kicker eK
  simp only [px, px2, Res.bind_ok, is_count_i, dec_and h.1, dec_and h.2]
theorem all_true {α : Type} (l : List α) : (l.all fun _ => true) = true := List.all_eq_true.mpr fun _ _ => rfl
theorem is_belt_ok {b : Bel} (h : b.Ok) : g_is_belt [eB b] = .ok (.bool true) := by
  have e1 : (decide (1 ≤ (b.fs.length : Int)) && decide ((b.fs.length : Int) ≤ 6)) = true := dec_and ⟨by have := h.f1; omega, by have := h.f6; omega⟩
  have e2 : decide ((8 : Int) < (b.ss.length : Int)) = false := decide_eq_false (by have := h.s8; omega)
  have e3 : decide ((3 : Int) < (b.ks.length : Int)) = false := decide_eq_false (by have := h.k3; omega)
  unfold g_is_belt F_is_belt eB
  simp only [px, px2, Res.bind_ok]
  rw [compD_all (fun d : PyData => d) (fun d => [d]) (fun d => .bool (isTup d)) [eZ b.fs, .tuple (b.ss.map eS), .tuple (b.ks.map eK)] rfl (fun _ _ => rfl) fun d _ => by simp only [px, Res.bind_ok]]
  simp only [px, px2, Res.bind_ok, eZ]
  have e4 : allD [.list [.bool true, .bool true, .bool true]] = .ok (.bool true) := rfl
  simp only [e4, px, px2, Res.bind_ok, List.length_map, e1, e2, e3]
  rw [compD_all (fun n : Int => PyData.int n) (fun n => [.int n]) (fun n => .bool true) b.fs rfl (fun _ _ => rfl) fun n hn => by simp only [px, Res.bind_ok, is_count_i, dec_and (h.fp n hn)]]
  simp only [px, px2, Res.bind_ok, all_true]
  rw [compD_all eS (fun n => [eS n]) (fun n => .bool true) b.ss rfl (fun _ _ => rfl) fun n hn => by simp only [px, Res.bind_ok, List.length_map, is_spot_ok (h.sp n hn)]]
  simp only [px, px2, Res.bind_ok, all_true]
  rw [compD_all eK (fun n => [eK n]) (fun n => .bool true) b.ks rfl (fun _ _ => rfl) fun n hn => by simp only [px, Res.bind_ok, is_kicker_ok (h.kp n hn)]]
  simp only [px, px2, Res.bind_ok, all_true]
theorem need_belt_ok {b : Bel} (h : b.Ok) : g_need_belt [eB b] = .ok .none := by
  unfold g_need_belt F_need_belt
  simp only [px, Res.bind_ok, is_belt_ok h]
/-! ### who sees what -/
def Bel.sp (b : Bel) (s : Nat) : Spt := b.ss.getD s (0, 0, [])
def Bel.fl (b : Bel) (f : Nat) : Int := b.fs.getD f 0
def Bel.kp' (b : Bel) (k : Nat) : Int × Int := b.ks.getD k (0, 0)
def seesB (b : Bel) (s f : Nat) : Bool := decide (f ∈ (b.sp s).2.2) && decide (b.fl f ≤ (b.sp s).1)
theorem Bel.ss_at {b : Bel} {s : Nat} (h : s < b.ss.length) : (b.ss.map eS)[s]? = some (eS (b.sp s)) := by
  rw [List.getElem?_map, List.getElem?_eq_getElem h]
  unfold Bel.sp
  rw [List.getD_eq_getElem?_getD, List.getElem?_eq_getElem h]
  rfl
theorem Bel.fs_at {b : Bel} {s : Nat} (h : s < b.fs.length) : (b.fs.map fun n => PyData.int n)[s]? = some (.int (b.fl s)) := by
  rw [List.getElem?_map, List.getElem?_eq_getElem h]
  unfold Bel.fl
  rw [List.getD_eq_getElem?_getD, List.getElem?_eq_getElem h]
  rfl
theorem Bel.ks_at {b : Bel} {s : Nat} (h : s < b.ks.length) : (b.ks.map eK)[s]? = some (eK (b.kp' s)) := by
  rw [List.getElem?_map, List.getElem?_eq_getElem h]
  unfold Bel.kp'
  rw [List.getD_eq_getElem?_getD, List.getElem?_eq_getElem h]
  rfl
theorem flat_ints (l : List Nat) : (l.map fun n : Nat => PyData.int (n : Int)).all flatD = true := by
  rw [List.all_map]
  exact List.all_eq_true.mpr fun _ _ => rfl
theorem any_eqv (l : List Nat) (n : Nat) : ((l.map fun n : Nat => PyData.int (n : Int)).any fun y => PyData.eqv y (.int (n : Int))) = decide (n ∈ l) := by
  induction l with
  | nil => rfl
  | cons a r ih =>
    rw [List.map_cons, List.any_cons, ih]
    have e : PyData.eqv (.int (a : Int)) (.int (n : Int)) = decide (n = a) := by
      show ((a : Int) == (n : Int)) = _
      rw [beq_dec]
      exact decide_eq_decide.mpr ⟨fun h => by omega, fun h => by omega⟩
    rw [e]
    by_cases h1 : n = a <;> by_cases h2 : n ∈ r <;> simp [h1, h2]
theorem inD_n {n : Nat} {l : List Nat} : inD (.int (n : Int)) (.tuple (l.map fun n : Nat => .int (n : Int))) = .ok (.bool (decide (n ∈ l))) := by
  show (if flatD (.int (n : Int)) = true ∧ (l.map fun n : Nat => PyData.int (n : Int)).all flatD = true then Res.ok (PyData.bool ((l.map fun n : Nat => PyData.int (n : Int)).any fun y => PyData.eqv y (.int (n : Int)))) else .stuck) = _
  rw [any_eqv, if_pos ⟨rfl, flat_ints l⟩]
theorem notInD_n {n : Nat} {l : List Nat} : notInD (.int (n : Int)) (.tuple (l.map fun n : Nat => .int (n : Int))) = .ok (.bool (!decide (n ∈ l))) := by
  show (if flatD (.int (n : Int)) = true ∧ (l.map fun n : Nat => PyData.int (n : Int)).all flatD = true then Res.ok (PyData.bool (!(l.map fun n : Nat => PyData.int (n : Int)).any fun y => PyData.eqv y (.int (n : Int)))) else .stuck) = _
  rw [any_eqv, if_pos ⟨rfl, flat_ints l⟩]
theorem inD_nl {n : Nat} {l : List Nat} : inD (.int (n : Int)) (.list (l.map fun n : Nat => .int (n : Int))) = .ok (.bool (decide (n ∈ l))) := by
  show (if flatD (.int (n : Int)) = true ∧ (l.map fun n : Nat => PyData.int (n : Int)).all flatD = true then Res.ok (PyData.bool ((l.map fun n : Nat => PyData.int (n : Int)).any fun y => PyData.eqv y (.int (n : Int)))) else .stuck) = _
  rw [any_eqv, if_pos ⟨rfl, flat_ints l⟩]
theorem notInD_nl {n : Nat} {l : List Nat} : notInD (.int (n : Int)) (.list (l.map fun n : Nat => .int (n : Int))) = .ok (.bool (!decide (n ∈ l))) := by
  show (if flatD (.int (n : Int)) = true ∧ (l.map fun n : Nat => PyData.int (n : Int)).all flatD = true then Res.ok (PyData.bool (!(l.map fun n : Nat => PyData.int (n : Int)).any fun y => PyData.eqv y (.int (n : Int)))) else .stuck) = _
  rw [any_eqv, if_pos ⟨rfl, flat_ints l⟩]
theorem sees_ok {b : Bel} {s f : Nat} (hs : s < b.ss.length) (hf : f < b.fs.length) : g_sees [eB b, .int (s : Int), .int (f : Int)] = .ok (.bool (seesB b s f)) := by
  unfold g_sees F_sees eB
  simp only [px, px2, Res.bind_ok, idx_t (Bel.ss_at hs), eS, eN, inD_n, eZ, idx_t (Bel.fs_at hf)]
  rfl
end PX

/-! plain laws: kickers, plans, bottles -/
namespace PX
open PySem PySem.Spec PyProof.Rows
/-! ### the least of pairs -/
abbrev Pr := Int × Nat
def ePr (p : Pr) : PyData := .tuple [.int p.1, .int (p.2 : Int)]
def ltP (a b : Pr) : Bool := decide (a.1 < b.1 ∨ (a.1 = b.1 ∧ (a.2 : Int) < (b.2 : Int)))
def minPr (x : Pr) (xs : List Pr) : Pr := xs.foldl (fun a y => if ltP y a = true then y else a) x
theorem alike_pr (a b : Pr) : PySem.W.alike (ePr a) (ePr b) = true := by
  show (PySem.W.alike (.int a.1) (.int b.1) && (PySem.W.alike (.int a.2) (.int b.2) && true)) = true
  rfl
theorem dataLt_pr (a b : Pr) : PySem.W.dataLt (ePr a) (ePr b) = ltP a b := PySem.W.dataLt_ii _ _ _ _
theorem minD_pr (xs : List Pr) : ∀ x : Pr, PySem.W.minD (ePr x) (xs.map ePr) = ePr (minPr x xs) := by
  induction xs with
  | nil => exact fun x => rfl
  | cons y r ih =>
    intro x
    show List.foldl _ (if PySem.W.dataLt (ePr y) (ePr x) = true then ePr y else ePr x) (r.map ePr) = ePr (List.foldl _ (if ltP y x = true then y else x) r)
    rw [dataLt_pr]
    split
    · exact ih y
    · exact ih x
theorem depth_prs : ∀ xs : List Pr, PyData.depthAll (xs.map ePr) ≤ 1
  | [] => by simp [PyData.depthAll]
  | x :: r => by
    have ih := depth_prs r
    have e : (ePr x).depth = 1 := by simp [ePr, PyData.depth, PyData.depthAll]
    simp only [List.map_cons, PyData.depthAll, e]
    omega
theorem minP_pr (x : Pr) (xs : List Pr) : minP [.list (ePr x :: xs.map ePr)] = .ok (ePr (minPr x xs)) := by
  have h : alikeL ((x :: xs).map ePr) = true ∧ ((x :: xs).map ePr).all notNone = true ∧ PyData.depthAll ((x :: xs).map ePr) ≤ 40 := by
    refine ⟨List.all_eq_true.mpr fun a ha => List.all_eq_true.mpr fun b hb => ?_, List.all_eq_true.mpr fun a ha => ?_, Nat.le_trans (depth_prs _) (by decide)⟩
    · obtain ⟨a', _, rfl⟩ := List.mem_map.mp ha
      obtain ⟨b', _, rfl⟩ := List.mem_map.mp hb
      exact alike_pr a' b'
    · obtain ⟨a', _, rfl⟩ := List.mem_map.mp ha
      rfl
  show (if _ then Res.ok (PySem.W.minD (ePr x) (xs.map ePr)) else .stuck) = _
  exact (if_pos h).trans (by rw [minD_pr])
theorem minPr_mem (xs : List Pr) : ∀ x : Pr, minPr x xs ∈ x :: xs := by
  induction xs with
  | nil => exact fun x => List.mem_cons_self
  | cons y r ih =>
    intro x
    show (List.foldl _ (if ltP y x = true then y else x) r) ∈ _
    split
    · exact List.mem_cons_of_mem _ (ih y)
    · rcases List.mem_cons.mp (ih x) with e | h
      · exact List.mem_cons.mpr (.inl e)
      · exact List.mem_cons_of_mem _ (List.mem_cons_of_mem _ h)
theorem minPr_le (xs : List Pr) : ∀ x : Pr, ∀ y ∈ x :: xs, ltP y (minPr x xs) = false := by
  induction xs with
  | nil =>
    intro x y hy
    cases List.mem_singleton.mp hy
    exact decide_eq_false (by simp [minPr])
  | cons z r ih =>
    intro x y hy
    show ltP y (List.foldl _ (if ltP z x = true then z else x) r) = false
    have tr : ∀ a b c : Pr, ltP b a = false → ltP c b = false → ltP c a = false := fun a b c h1 h2 => by
      unfold ltP at *
      simp only [decide_eq_false_iff_not] at *
      omega
    have as : ∀ a b : Pr, ltP a b = true → ltP b a = false := fun a b h1 => by
      unfold ltP at *
      simp only [decide_eq_false_iff_not, decide_eq_true_eq] at *
      omega
    split
    · rename_i h
      rcases List.mem_cons.mp hy with e | hy
      · subst e
        exact tr _ _ _ (ih z z List.mem_cons_self) (as _ _ h)
      · exact ih z y hy
    · rename_i h
      have h' : ltP z x = false := by simpa using h
      rcases List.mem_cons.mp hy with e | hy
      · subst e; exact ih y y List.mem_cons_self
      · rcases List.mem_cons.mp hy with e | hy
        · subst e
          exact tr _ _ _ (ih x x List.mem_cons_self) h'
        · exact ih x y (List.mem_cons_of_mem _ hy)
def minO : List Pr → Option Pr
  | [] => none
  | x :: xs => some (minPr x xs)
theorem minO_some {l : List Pr} {p : Pr} (h : minO l = some p) : p ∈ l ∧ ∀ y ∈ l, ltP y p = false := by
  cases l with
  | nil => cases h
  | cons x xs =>
    cases h
    exact ⟨minPr_mem xs x, minPr_le xs x⟩
theorem minO_none {l : List Pr} : minO l = none ↔ l = [] := by
  cases l with
  | nil => exact ⟨fun _ => rfl, fun _ => rfl⟩
  | cons x xs => exact ⟨fun h => (by cases h), fun h => (by cases h)⟩
/-! ### the first kicker behind a place -/
def eO : Option Nat → PyData
  | none => .none
  | some n => .int (n : Int)
def kcand (b : Bel) (ks : List Nat) (p : Int) : List Pr := (ks.filter fun k => decide (p ≤ (b.kp' k).1)).map fun k => ((b.kp' k).1, k)
def fk (b : Bel) (ks : List Nat) (p : Int) : Option Nat := (minO (kcand b ks p)).map (·.2)
theorem isEmpty_map {α β : Type} (f : α → β) (l : List α) : (l.map f).isEmpty = l.isEmpty := by cases l <;> rfl
theorem first_kicker_ok {b : Bel} {ks : List Nat} {p : Int} {d : PyData} (hd : itD d = .ok (ks.map fun n : Nat => .int (n : Int))) (hk : ∀ k ∈ ks, k < b.ks.length) : g_first_kicker [eB b, d, .int p] = .ok (eO (fk b ks p)) := by
  unfold g_first_kicker F_first_kicker eB
  simp only [px, px2, Res.bind_ok]
  rw [compD_map (fun n : Nat => PyData.int (n : Int)) (fun n => [.int (n : Int)]) (fun k => decide (p ≤ (b.kp' k).1)) (fun k => ePr ((b.kp' k).1, k)) ks ?_ (fun _ _ => rfl) ?_ ?_]
  · have e : (ks.filter fun k => decide (p ≤ (b.kp' k).1)).map (fun k => ePr ((b.kp' k).1, k)) = (kcand b ks p).map ePr := by
      unfold kcand
      rw [List.map_map]
      rfl
    rw [e]
    unfold fk
    cases h : kcand b ks p with
    | nil => simp only [px, px2, Res.bind_ok, List.isEmpty_nil, minO, Option.map_none, eO]
    | cons x xs =>
      simp only [px, px2, Res.bind_ok, List.isEmpty_cons, minO, Option.map_some, eO, minP_pr]
      simp only [px, px2, Res.bind_ok, ePr]
  · simp only [px, px2, Res.bind_ok, hd]
  · intro k hm
    simp only [px, px2, Res.bind_ok, idx_t (Bel.ks_at (hk k hm)), eK]
  · intro k hm _
    simp only [px, px2, Res.bind_ok, idx_t (Bel.ks_at (hk k hm)), eK, ePr]
/-! ### who is of use -/
def usefulL (b : Bel) (ss ks : List Nat) (f : Nat) : List Nat := ss.filter fun s => seesB b s f && (fk b ks (b.sp s).1).isSome
theorem isNone_eO (o : Option Nat) : isNone (eO o) = !o.isSome := by cases o <;> rfl
def dN (l : List Nat) : List PyData := l.map fun n : Nat => .int (n : Int)
theorem useful_ok {b : Bel} {ss ks : List Nat} {f : Nat} {d d' : PyData} (hd : itD d = .ok (dN ss)) (hd' : itD d' = .ok (dN ks)) (hs : ∀ s ∈ ss, s < b.ss.length) (hk : ∀ k ∈ ks, k < b.ks.length) (hf : f < b.fs.length) (hz : ss.length ≤ 1000000) :
    g_useful [eB b, d, d', .int (f : Int)] = .ok (.list (dN (usefulL b ss ks f))) := by
  unfold g_useful F_useful
  simp only [px, px2, Res.bind_ok, hd, dN]
  rw [forL_app ss (fun n : Nat => PyData.int (n : Int)) (fun n => [.int (n : Int)]) (fun acc => [some (.d (eB b)), some (.d d), some (.d d'), some (.d (.int (f : Int))), some (.mu acc), none]) (fun s => seesB b s f && (fk b ks (b.sp s).1).isSome) (fun n => .int (n : Int)) [] ?_ ?_ (by simpa using hz) (fun _ _ => rfl) ?_]
  · simp only [px, px2, Res.bind_ok, frzS]
    rw [if_pos]
    · rfl
    · rw [List.length_map]
      exact Nat.le_trans (List.length_filter_le _ _) hz
  · rfl
  · rfl
  · intro acc hacc s hm
    simp only [px, px2, Res.bind_ok, sees_ok (hs s hm) hf, eB, idx_t (Bel.ss_at (hs s hm)), eS]
    rw [show (PyData.tuple [eZ b.fs, .tuple (b.ss.map eS), .tuple (b.ks.map eK)]) = eB b from rfl, first_kicker_ok hd' hk, sees_ok (hs s hm) hf]
    simp only [px, px2, Res.bind_ok, isNone_eO]
    cases h1 : seesB b s f && (fk b ks (b.sp s).1).isSome with
    | true => simp only [px, px2, Res.bind_ok, appF, hacc, if_true]
    | false =>
      simp only [px, px2, Res.bind_ok]
      rfl
/-! ### plans, bottles -/
abbrev Pln := List Nat × List Nat
def eP (p : Pln) : PyData := .tuple [eN p.1, eN p.2]
def POk (b : Bel) (p : Pln) : Prop := Ris p.1 b.ss.length ∧ Ris p.2 b.ks.length
theorem need_plan_ok {b : Bel} {p : Pln} (h : POk b p) : g_need_plan [eB b, eP p] = .ok .none := by
  unfold g_need_plan F_need_plan eB eP
  simp only [px, px2, Res.bind_ok, is_rising_ok h.1, is_rising_ok h.2]
theorem need_bottle_ok {b : Bel} {p : Pln} {bo sl : List Nat} (h1 : Ris bo b.fs.length) (h2 : Ris sl b.ss.length) (h3 : ∀ s ∈ sl, s ∈ p.1) : g_need_bottle [eB b, eP p, eN bo, eN sl] = .ok .none := by
  unfold g_need_bottle F_need_bottle eB eP eZ
  simp only [px, px2, Res.bind_ok, is_rising_ok h1, is_rising_ok h2]
  rw [compD_all (fun n : Nat => PyData.int (n : Int)) (fun n => [.int (n : Int)]) (fun n => .bool true) sl rfl (fun _ _ => rfl) fun s hs => by
    simp only [px, px2, Res.bind_ok, eN, inD_n, decide_eq_true (h3 s hs)]]
  simp only [px, px2, Res.bind_ok, all_true]
theorem need_count_ok {n : Nat} (h : n ≤ 8) : g_need_count [.int (n : Int)] = .ok .none := by
  unfold g_need_count F_need_count
  have e : (decide ((0 : Int) ≤ (n : Int)) && decide ((n : Int) ≤ 8)) = true := dec_and ⟨by omega, by omega⟩
  simp only [px, px2, Res.bind_ok, is_count_i, e]
/-! ### a bottle's way -/
def ocand (b : Bel) (ss bo sl : List Nat) : List Pr := (ss.filter fun s => !decide (s ∈ sl) && bo.any fun f => seesB b s f).map fun s => ((b.sp s).1, s)
def outL (b : Bel) (p : Pln) (bo sl : List Nat) : Option (Nat × Nat) := (minO (ocand b p.1 bo sl)).bind fun q => (fk b p.2 q.1).map fun k => (q.2, k)
def eOO : Option (Nat × Nat) → PyData
  | none => .none
  | some q => .tuple [.int (q.1 : Int), .int (q.2 : Int)]
theorem out_of_ok {b : Bel} {p : Pln} {bo sl : List Nat} (hp : POk b p) (h1 : Ris bo b.fs.length) (hz : p.1.length ≤ 1000000) : g_out_of [eB b, eP p, eN bo, eN sl] = .ok (eOO (outL b p bo sl)) := by
  unfold g_out_of F_out_of eP
  simp only [px, px2, Res.bind_ok, eN]
  rw [forL_app p.1 (fun n : Nat => PyData.int (n : Int)) (fun n => [.int (n : Int)]) (fun acc => [some (.d (eB b)), some (.d (eP p)), some (.d (eN bo)), some (.d (eN sl)), some (.mu acc), none, none, none, none]) (fun s => !decide (s ∈ sl) && bo.any fun f => seesB b s f) (fun s => ePr ((b.sp s).1, s)) [] ?_ ?_ (by simpa using hz) (fun _ _ => rfl) ?_]
  · have e : (p.1.filter fun s => !decide (s ∈ sl) && bo.any fun f => seesB b s f).map (fun s => ePr ((b.sp s).1, s)) = (ocand b p.1 bo sl).map ePr := by
      unfold ocand
      rw [List.map_map]
      rfl
    rw [e]
    have hl : ((ocand b p.1 bo sl).map ePr).length ≤ 1000000 := by
      unfold ocand
      rw [List.length_map, List.length_map]
      exact Nat.le_trans (List.length_filter_le _ _) hz
    unfold outL
    simp only [px, px2, Res.bind_ok, frzS, hl, if_true]
    cases h : ocand b p.1 bo sl with
    | nil => simp only [px, px2, Res.bind_ok, List.isEmpty_nil, minO, Option.bind_none, eOO]
    | cons x xs =>
      simp only [px, px2, Res.bind_ok, List.isEmpty_cons, minO, Option.bind_some, minP_pr]
      simp only [ePr, px, px2, Res.bind_ok, eP, eN]
      rw [first_kicker_ok (ks := p.2) rfl hp.2.1]
      simp only [px, px2, Res.bind_ok, isNone_eO]
      cases fk b p.2 (minPr x xs).1 with
      | none => simp only [px, px2, Res.bind_ok, Option.isSome_none, Option.map_none, eOO]
      | some k => simp only [px, px2, Res.bind_ok, Option.isSome_some, Option.map_some, eOO, eO]
  · rfl
  · rfl
  · intro acc hacc s hm
    have hs := hp.1.1 s hm
    simp only [px, px2, Res.bind_ok, eN, notInD_n]
    rw [compD_all (fun n : Nat => PyData.int (n : Int)) (fun n => [.int (n : Int)]) (fun f => .bool (seesB b s f)) bo rfl (fun _ _ => rfl) fun f hf => by
      simp only [px, px2, Res.bind_ok, sees_ok hs (h1.1 f hf)]]
    simp only [px, px2, Res.bind_ok]
    cases h1 : !decide (s ∈ sl) && bo.any fun f => seesB b s f with
    | true => simp only [px, px2, Res.bind_ok, eB, idx_t (Bel.ss_at hs), eS, appF, hacc, if_true, ePr]
    | false =>
      simp only [px, px2, Res.bind_ok]
      rfl
theorem eP_fold (a c : List Nat) : PyData.tuple [eN a, eN c] = eP (a, c) := rfl
theorem eB_fold (b : Bel) : PyData.tuple [eZ b.fs, .tuple (b.ss.map eS), .tuple (b.ks.map eK)] = eB b := rfl
theorem eqD_eN {l : List Nat} : eqD (eN l) (.tuple []) = .ok (.bool l.isEmpty) := by
  unfold eN
  rw [eqD_nilT, isEmpty_map]
theorem neD_eN {l : List Nat} : neD (eN l) (.tuple []) = .ok (.bool (!l.isEmpty)) := by
  unfold eN
  rw [neD_nilT, isEmpty_map]
/-- parts of belts, plans -/
theorem eb : (∀ b, idxD (eB b) (.int 0) = .ok (eZ b.fs)) ∧ (∀ b, idxD (eB b) (.int 1) = .ok (.tuple (b.ss.map eS))) ∧ (∀ b, idxD (eB b) (.int 2) = .ok (.tuple (b.ks.map eK))) ∧ (∀ p, idxD (eP p) (.int 0) = .ok (eN p.1)) ∧ (∀ p, idxD (eP p) (.int 1) = .ok (eN p.2)) ∧
    (∀ l, lenD [eZ l] = .ok (.int (l.length : Nat))) ∧ (∀ l, lenD [eN l] = .ok (.int (l.length : Nat))) ∧ (∀ l, itD (eN l) = .ok (l.map fun n : Nat => .int (n : Int))) ∧ (∀ l, itD (eZ l) = .ok (l.map fun n => .int n)) ∧
    (∀ s, idxD (eS s) (.int 0) = .ok (.int s.1)) ∧ (∀ s, idxD (eS s) (.int 1) = .ok (.int s.2.1)) ∧ (∀ s, idxD (eS s) (.int 2) = .ok (eN s.2.2)) ∧ (∀ k, idxD (eK k) (.int 0) = .ok (.int k.1)) ∧ (∀ k, idxD (eK k) (.int 1) = .ok (.int k.2)) ∧
    (type_of% @eqD_eN) ∧ (type_of% @neD_eN) ∧ (∀ (n : Nat) (l : List Nat), inD (.int (n : Int)) (eN l) = .ok (.bool (decide (n ∈ l)))) ∧ (∀ (n : Nat) (l : List Nat), notInD (.int (n : Int)) (eN l) = .ok (.bool (!decide (n ∈ l)))) :=
  ⟨fun _ => idx_0, fun _ => idx_1, fun _ => idx_2, fun _ => idx_0, fun _ => idx_1, fun _ => lenD_tm, fun _ => lenD_tm, fun _ => rfl, fun _ => rfl, fun _ => idx_0, fun _ => idx_1, fun _ => idx_2, fun _ => idx_0, fun _ => idx_1, @eqD_eN, @neD_eN, fun _ _ => inD_n, fun _ _ => notInD_n⟩
end PX

/-! plain laws: out, run, cost, borne, lets -/
namespace PX
open PySem PySem.Spec PyProof.Rows
theorem up_len : ∀ {l : List Nat} {k m : Nat}, l.Pairwise (· < ·) → (∀ x ∈ l, k ≤ x ∧ x < m) → l.length ≤ m - k
  | [], _, _, _, _ => Nat.zero_le _
  | a :: r, k, m, h, hb => by
    obtain ⟨h1, h2⟩ := List.pairwise_cons.mp h
    have ih := up_len (k := a + 1) (m := m) h2 fun x hx => ⟨h1 x hx, (hb x (List.mem_cons_of_mem _ hx)).2⟩
    have := hb a List.mem_cons_self
    rw [List.length_cons]
    omega
theorem Ris.len {l : List Nat} {m : Nat} (h : Ris l m) : l.length ≤ m := up_len (k := 0) h.2 fun x hx => ⟨Nat.zero_le _, h.1 x hx⟩
theorem POk.z {b : Bel} {p : Pln} (hb : b.Ok) (h : POk b p) : p.1.length ≤ 8 ∧ p.2.length ≤ 3 := ⟨Nat.le_trans h.1.len hb.s8, Nat.le_trans h.2.len hb.k3⟩
theorem out_ok {b : Bel} {p : Pln} {bo sl : List Nat} (hb : b.Ok) (hp : POk b p) (h1 : Ris bo b.fs.length) (h2 : Ris sl b.ss.length) (h3 : ∀ s ∈ sl, s ∈ p.1) : g_out [eB b, eP p, eN bo, eN sl] = .ok (eOO (outL b p bo sl)) := by
  unfold g_out F_out
  simp only [px, px2, Res.bind_ok, need_belt_ok hb, need_plan_ok hp, need_bottle_ok h1 h2 h3, out_of_ok hp h1 (Nat.le_trans (hp.z hb).1 (by decide))]
abbrev Row := List Nat × List Nat
def RowOk (b : Bel) (p : Pln) (r : Row) : Prop := Ris r.1 b.fs.length ∧ Ris r.2 b.ss.length ∧ ∀ s ∈ r.2, s ∈ p.1
def runL (b : Bel) (p : Pln) (rows : List Row) : List Nat := (rows.zipIdx.filter fun q => !q.1.1.isEmpty && (outL b p q.1.1 q.1.2).isNone).map (·.2)
theorem isNone_eOO (o : Option (Nat × Nat)) : isNone (eOO o) = o.isNone := by cases o <;> rfl
theorem run_ok {b : Bel} {p : Pln} {rows : List Row} (hb : b.Ok) (hp : POk b p) (hr : ∀ r ∈ rows, RowOk b p r) (hz : rows.length ≤ 1000000) : g_run [eB b, eP p, .list (rows.map eP)] = .ok (.list (dN (runL b p rows))) := by
  unfold g_run F_run
  simp only [px, px2, Res.bind_ok, need_belt_ok hb, need_plan_ok hp]
  rw [compD_all eP (fun n => [eP n]) (fun n => .bool true) rows ?_ (fun _ _ => rfl) ?_]
  · simp only [px, px2, Res.bind_ok, all_true]
    rw [forL_same eP (fun r => [eN r.1, eN r.2]) rows (fun r _ => by simp only [eP, px, Res.bind_ok]) fun r hm => ?_]
    · simp only [px, px2, Res.bind_ok, enumL, List.zipIdx_map, List.map_map]
      rw [forL_app rows.zipIdx (fun q => PyData.tuple [.int (q.2 : Int), eP q.1]) (fun q => [.int (q.2 : Int), eN q.1.1, eN q.1.2]) (fun acc => [some (.d (eB b)), some (.d (eP p)), some (.d (.list (rows.map eP))), none, none, some (.mu acc), none, none]) (fun q => !q.1.1.isEmpty && (outL b p q.1.1 q.1.2).isNone) (fun q => .int (q.2 : Int)) [] ?_ ?_ ?_ ?_ ?_]
      · have e : ([] ++ (rows.zipIdx.filter fun q => !q.1.1.isEmpty && (outL b p q.1.1 q.1.2).isNone).map fun q => PyData.int (q.2 : Int)) = dN (runL b p rows) := by
          unfold dN runL
          rw [List.map_map, List.nil_append]
          rfl
        rw [e]
        have hl : (dN (runL b p rows)).length ≤ 1000000 := by
          unfold dN runL
          rw [List.length_map, List.length_map]
          exact Nat.le_trans (List.length_filter_le _ _) (by rw [List.length_zipIdx]; exact hz)
        simp only [px, px2, Res.bind_ok, frzS, hl, if_true]
      · rfl
      · rfl
      · rw [List.length_zipIdx]; simpa using hz
      · intro q _
        simp only [px, Res.bind_ok, eP]
      · intro acc hacc q hq
        have hm : q.1 ∈ rows := List.fst_mem_of_mem_zipIdx hq
        obtain ⟨r1, r2, r3⟩ := hr _ hm
        simp only [px, px2, Res.bind_ok, out_of_ok hp r1 (Nat.le_trans (hp.z hb).1 (by decide))]
        simp only [px, px2, Res.bind_ok, eN, isNone_eOO, isEmpty_map]
        cases h1 : !q.1.1.isEmpty && (outL b p q.1.1 q.1.2).isNone with
        | true => simp only [px, px2, Res.bind_ok, appF, hacc, if_true]
        | false =>
          simp only [px, px2, Res.bind_ok]
          rfl
    · obtain ⟨r1, r2, r3⟩ := hr r hm
      simp only [px, px2, Res.bind_ok, need_bottle_ok r1 r2 r3]
  · simp only [px, px2, Res.bind_ok]
  · intro r hm
    simp only [px, px2, Res.bind_ok, eP]
/-! ### costs -/
def costI (b : Bel) (p : Pln) : Int := (p.1.map fun s => (b.sp s).2.1).sum + (p.2.map fun k => (b.kp' k).2).sum
theorem cost_of_ok {b : Bel} {p : Pln} (hp : POk b p) : g_cost_of [eB b, eP p] = .ok (.int (costI b p)) := by
  unfold g_cost_of F_cost_of eP eN eB
  simp only [px, px2, Res.bind_ok]
  rw [compD_all (fun n : Nat => PyData.int (n : Int)) (fun n => [.int (n : Int)]) (fun s => .int (b.sp s).2.1) p.1 (by simp only [px, px2, Res.bind_ok]) (fun _ _ => rfl) fun s hs => by
    simp only [px, px2, Res.bind_ok, idx_t (Bel.ss_at (hp.1.1 s hs)), eS]]
  rw [compD_all (fun n : Nat => PyData.int (n : Int)) (fun n => [.int (n : Int)]) (fun s => .int (b.kp' s).2) p.2 (by simp only [px, px2, Res.bind_ok]) (fun _ _ => rfl) fun s hs => by
    simp only [px, px2, Res.bind_ok, idx_t (Bel.ks_at (hp.2.1 s hs)), eK]]
  simp only [px, px2, Res.bind_ok, costI]
theorem cost_ok {b : Bel} {p : Pln} (hb : b.Ok) (hp : POk b p) : g_cost [eB b, eP p] = .ok (.int (costI b p)) := by
  unfold g_cost F_cost
  simp only [px, px2, Res.bind_ok, need_belt_ok hb, need_plan_ok hp, cost_of_ok hp]
/-! ### how many slips are borne -/
def usefulN (b : Bel) (p : Pln) (f : Nat) : Nat := (usefulL b p.1 p.2 f).length
def leastI (b : Bel) (p : Pln) : Int := minOf ((List.range b.fs.length).map fun f => (usefulN b p f : Int))
theorem leastI_is {b : Bel} (p : Pln) (hb : b.Ok) : (∃ f, f < b.fs.length ∧ leastI b p = (usefulN b p f : Int)) ∧ ∀ f, f < b.fs.length → leastI b p ≤ (usefulN b p f : Int) := by
  have hl : 0 < ((List.range b.fs.length).map fun f => (usefulN b p f : Int)).length := by
    rw [List.length_map, List.length_range]
    exact hb.f1
  obtain ⟨h1, h2⟩ := minOf_mem hl
  obtain ⟨f, hf, e⟩ := List.mem_map.mp h1
  exact ⟨⟨f, List.mem_range.mp hf, e.symm⟩, fun f hf => h2 _ (List.mem_map.mpr ⟨f, List.mem_range.mpr hf, rfl⟩)⟩
theorem minD_map {α : Type} {f : α → Int} {l : List α} (h : l ≠ []) : minD [.list (l.map fun x => .int (f x))] = .ok (.int (minOf (l.map f))) := by
  unfold minD
  simp only [intsOf_map]
  rw [if_neg]
  simpa using h
theorem least_seen_ok {b : Bel} {p : Pln} (hb : b.Ok) (hp : POk b p) : g_least_seen [eB b, eP p] = .ok (.int (leastI b p)) := by
  have hz := hp.z hb
  have f6 := hb.f6
  unfold g_least_seen F_least_seen
  simp only [px, px2, Res.bind_ok]
  rw [compD_all (fun n : Nat => PyData.int (n : Int)) (fun n => [.int (n : Int)]) (fun f => .int (usefulN b p f : Int)) (List.range b.fs.length) ?_ (fun _ _ => rfl) fun f hf => ?_]
  · simp only [px, px2, Res.bind_ok]
    rw [minD_map (fun h => by have := hb.f1; rw [List.range_eq_nil] at h; omega)]
    simp only [px, px2, Res.bind_ok, leastI]
  · simp only [px, px2, Res.bind_ok, eB, eZ]
    exact rngL_nat (by omega)
  · have hf := List.mem_range.mp hf
    simp only [px, px2, Res.bind_ok, eP]
    rw [useful_ok (ss := p.1) (ks := p.2) rfl rfl hp.1.1 hp.2.1 hf (by omega)]
    simp only [px, px2, Res.bind_ok, dN, usefulN]
def borneD (b : Bel) (p : Pln) : PyData := if 0 < leastI b p then .int (leastI b p - 1) else .none
theorem borne_ok {b : Bel} {p : Pln} (hb : b.Ok) (hp : POk b p) : g_borne [eB b, eP p] = .ok (borneD b p) := by
  unfold g_borne F_borne
  simp only [px, px2, Res.bind_ok, need_belt_ok hb, need_plan_ok hp, least_seen_ok hb hp]
  unfold borneD
  by_cases h : 0 < leastI b p
  · simp only [h, if_true, decide_true, px, Res.bind_ok]
  · simp only [h, if_false, decide_false, px, Res.bind_ok]
def letsL (b : Bel) (p : Pln) (c : Nat) : Option Nat := (List.range b.fs.length).find? fun f => decide ((usefulN b p f : Int) ≤ (c : Int))
def letsD (b : Bel) (p : Pln) (c : Nat) : PyData := match letsL b p c with
  | some f => .tuple [eN [f], eN (usefulL b p.1 p.2 f)]
  | none => .none
theorem lets_ok {b : Bel} {p : Pln} {c : Nat} (hb : b.Ok) (hp : POk b p) (hc : c ≤ 8) : g_lets [eB b, eP p, .int (c : Int)] = .ok (letsD b p c) := by
  have hz := hp.z hb
  have f6 := hb.f6
  have er : rngL (.int (b.fs.length : Int)) = _ := rngL_nat (n := b.fs.length) (by omega)
  unfold g_lets F_lets
  simp only [px, px2, Res.bind_ok, need_belt_ok hb, need_plan_ok hp, need_count_ok hc]
  simp only [eB, px, px2, Res.bind_ok, eZ, er]
  rw [forL_find (List.range b.fs.length) (fun n : Nat => PyData.int (n : Int)) (fun n => [.int (n : Int)]) (fun f => decide ((usefulN b p f : Int) ≤ (c : Int))) (fun f => .tuple [eN [f], eN (usefulL b p.1 p.2 f)]) rfl (fun _ _ => rfl) fun f hf => ?_]
  · unfold letsD letsL
    cases List.find? (fun f => decide ((usefulN b p f : Int) ≤ (c : Int))) (List.range b.fs.length) with
    | none => simp only [px, px2, Res.bind_ok]
    | some f => simp only [px, px2, Res.bind_ok]
  · have hf := List.mem_range.mp hf
    simp only [px, px2, Res.bind_ok, eP]
    have eu := useful_ok (b := b) (ss := p.1) (ks := p.2) (f := f) (d := eN p.1) (d' := eN p.2) rfl rfl hp.1.1 hp.2.1 hf (by omega)
    unfold eB eZ at eu
    simp only [px, px2, Res.bind_ok, eu, dN, List.length_map]
    by_cases h : (usefulN b p f : Int) ≤ (c : Int)
    · have h' : ((usefulL b p.1 p.2 f).length : Int) ≤ (c : Int) := h
      simp only [px, px2, Res.bind_ok, h, h', decide_true, if_true, eN]
    · have h' : ¬ ((usefulL b p.1 p.2 f).length : Int) ≤ (c : Int) := h
      simp only [px, px2, Res.bind_ok, h, h', decide_false, eN]
      rfl
end PX

/-! plain laws: what is drawn -/
namespace PX
open PySem PySem.Spec PyProof.Rows
/-- reckoning with written numbers -/
theorem dm : (∀ i, fdivD (.int i) (.int 2) = .ok (.int (i / 2))) ∧ (∀ i, fdivD (.int i) (.int 3) = .ok (.int (i / 3))) ∧ (∀ i, fdivD (.int i) (.int 7) = .ok (.int (i / 7))) ∧ (∀ i, fdivD (.int i) (.int 8) = .ok (.int (i / 8))) ∧ (∀ i, fdivD (.int i) (.int 16) = .ok (.int (i / 16))) ∧ (∀ i, fdivD (.int i) (.int 64) = .ok (.int (i / 64))) ∧ (∀ i, fdivD (.int i) (.int 256) = .ok (.int (i / 256))) ∧ (∀ i, fdivD (.int i) (.int 512) = .ok (.int (i / 512))) ∧ (∀ i, fdivD (.int i) (.int 1024) = .ok (.int (i / 1024))) ∧ (∀ i, fdivD (.int i) (.int 4096) = .ok (.int (i / 4096))) ∧ (∀ i, fdivD (.int i) (.int 65536) = .ok (.int (i / 65536))) ∧ (∀ i, fdivD (.int i) (.int 1048576) = .ok (.int (i / 1048576))) ∧ (∀ i, fdivD (.int i) (.int 1073741824) = .ok (.int (i / 1073741824))) ∧ (∀ i, fdivD (.int i) (.int 18446744073709551557) = .ok (.int (i / 18446744073709551557))) ∧ (∀ i, modD (.int i) (.int 2) = .ok (.int (i % 2))) ∧ (∀ i, modD (.int i) (.int 3) = .ok (.int (i % 3))) ∧ (∀ i, modD (.int i) (.int 4) = .ok (.int (i % 4))) ∧ (∀ i, modD (.int i) (.int 5) = .ok (.int (i % 5))) ∧ (∀ i, modD (.int i) (.int 6) = .ok (.int (i % 6))) ∧ (∀ i, modD (.int i) (.int 7) = .ok (.int (i % 7))) ∧ (∀ i, modD (.int i) (.int 8) = .ok (.int (i % 8))) ∧ (∀ i, modD (.int i) (.int 9) = .ok (.int (i % 9))) ∧ (∀ i, modD (.int i) (.int 10) = .ok (.int (i % 10))) ∧ (∀ i, modD (.int i) (.int 12) = .ok (.int (i % 12))) ∧ (∀ i, modD (.int i) (.int 16) = .ok (.int (i % 16))) ∧ (∀ i, modD (.int i) (.int 100) = .ok (.int (i % 100))) ∧ (∀ i, modD (.int i) (.int 1000) = .ok (.int (i % 1000))) ∧ (∀ i, modD (.int i) (.int 18446744073709551557) = .ok (.int (i % 18446744073709551557))) ∧ (∀ i, modD (.int i) (.int 340282366920938463463374607431768211507) = .ok (.int (i % 340282366920938463463374607431768211507))) ∧ (∀ i, modD (.int i) (.int 340282366920938463463374607431768211297) = .ok (.int (i % 340282366920938463463374607431768211297))) ∧ (∀ i, mulD (.int i) (.int 6364136223846793005) = .ok (.int (i * 6364136223846793005))) ∧ (∀ i, mulD (.int i) (.int 1442695040888963407) = .ok (.int (i * 1442695040888963407))) ∧ (∀ i, mulD (.int i) (.int 7919) = .ok (.int (i * 7919))) ∧ (∀ i, mulD (.int i) (.int 104729) = .ok (.int (i * 104729))) ∧ (∀ i, mulD (.int i) (.int 2) = .ok (.int (i * 2))) ∧ (∀ i, mulD (.int 2) (.int i) = .ok (.int (2 * i))) ∧ powD (.int 2) (.int 20) = .ok (.int 1048576) ∧ powD (.int 2) (.int 30) = .ok (.int 1073741824) ∧ powD (.int 2) (.int 10) = .ok (.int 1024) :=
  ⟨fun _ => fdivD_i ⟨by decide, by decide⟩, fun _ => fdivD_i ⟨by decide, by decide⟩, fun _ => fdivD_i ⟨by decide, by decide⟩, fun _ => fdivD_i ⟨by decide, by decide⟩, fun _ => fdivD_i ⟨by decide, by decide⟩, fun _ => fdivD_i ⟨by decide, by decide⟩, fun _ => fdivD_i ⟨by decide, by decide⟩, fun _ => fdivD_i ⟨by decide, by decide⟩, fun _ => fdivD_i ⟨by decide, by decide⟩, fun _ => fdivD_i ⟨by decide, by decide⟩, fun _ => fdivD_i ⟨by decide, by decide⟩, fun _ => fdivD_i ⟨by decide, by decide⟩, fun _ => fdivD_i ⟨by decide, by decide⟩, fun _ => fdivD_i ⟨by decide, by decide⟩, fun _ => modD_i (by decide), fun _ => modD_i (by decide), fun _ => modD_i (by decide), fun _ => modD_i (by decide), fun _ => modD_i (by decide), fun _ => modD_i (by decide), fun _ => modD_i (by decide), fun _ => modD_i (by decide), fun _ => modD_i (by decide), fun _ => modD_i (by decide), fun _ => modD_i (by decide), fun _ => modD_i (by decide), fun _ => modD_i (by decide), fun _ => modD_i (by decide), fun _ => modD_i (by decide), fun _ => modD_i (by decide), fun _ => mulD_i (mulOk_r (by decide)), fun _ => mulD_i (mulOk_r (by decide)), fun _ => mulD_i (mulOk_r (by decide)), fun _ => mulD_i (mulOk_r (by decide)), fun _ => mulD_i (mulOk_r (by decide)), fun _ => mulD_i (mulOk_l (by decide)), rfl, rfl, rfl⟩
def P1 : Int := 340282366920938463463374607431768211507
def P2 : Int := 340282366920938463463374607431768211297
def P3 : Int := 18446744073709551557
def drawn1 (c k : Int) : Int := (c * 6364136223846793005 + (k + 1) * 1442695040888963407) % 340282366920938463463374607431768211507
def drawn2 (c k : Int) : Int := drawn1 c k * drawn1 c k % 340282366920938463463374607431768211297
def drawn3 (c k : Int) : Int := (drawn2 c k % 18446744073709551557 + 1) * (drawn2 c k / 18446744073709551557 + 1) * drawn2 c k
def drawnI (c k : Int) : Int := drawn3 c k % 340282366920938463463374607431768211507
theorem drawnI_nn (c k : Int) : 0 ≤ drawnI c k := Int.emod_nonneg _ (by decide)
theorem law_drawn_ok (c k : Int) : g_law_drawn [.int c, .int k] = .ok (.int (drawnI c k)) := by
  have a1 : 0 ≤ drawn1 c k := Int.emod_nonneg _ (by decide)
  have a2 : drawn1 c k < 340282366920938463463374607431768211507 := Int.emod_lt_of_pos _ (by decide)
  have b1 : 0 ≤ drawn2 c k := Int.emod_nonneg _ (by decide)
  have b2 : drawn2 c k < 340282366920938463463374607431768211297 := Int.emod_lt_of_pos _ (by decide)
  have big : ∀ x : Int, 0 ≤ x → x < 340282366920938463463374607431768211507 * 340282366920938463463374607431768211507 → x.natAbs < 2 ^ 900 := fun x h1 h2 => by
    have h3 : (340282366920938463463374607431768211507 * 340282366920938463463374607431768211507 : Nat) < 2 ^ 900 := by decide
    omega
  have m1 := mulOk_b (big _ a1 (by omega)) (big _ a1 (by omega))
  have c1 : 0 ≤ drawn2 c k % 18446744073709551557 := Int.emod_nonneg _ (by decide)
  have c2 : drawn2 c k % 18446744073709551557 < 18446744073709551557 := Int.emod_lt_of_pos _ (by decide)
  have d1 : 0 ≤ drawn2 c k / 18446744073709551557 := Int.ediv_nonneg b1 (by decide)
  have d2 : drawn2 c k / 18446744073709551557 ≤ drawn2 c k := Int.ediv_le_self _ b1
  have m2 := mulOk_b (big (drawn2 c k % 18446744073709551557 + 1) (by omega) (by omega)) (big (drawn2 c k / 18446744073709551557 + 1) (by omega) (by omega))
  have e1 : 0 ≤ (drawn2 c k % 18446744073709551557 + 1) * (drawn2 c k / 18446744073709551557 + 1) := Int.mul_nonneg (by omega) (by omega)
  have e2 : (drawn2 c k % 18446744073709551557 + 1) * (drawn2 c k / 18446744073709551557 + 1) ≤ 18446744073709551557 * 340282366920938463463374607431768211297 := Int.mul_le_mul (by omega) (by omega) (by omega) (by omega)
  have m3 := mulOk_b (big ((drawn2 c k % 18446744073709551557 + 1) * (drawn2 c k / 18446744073709551557 + 1)) e1 (by omega)) (big (drawn2 c k) b1 (by omega))
  unfold g_law_drawn F_law_drawn
  simp only [px, px2, Res.bind_ok, dm]
  rw [show (c * 6364136223846793005 + (k + 1) * 1442695040888963407) % 340282366920938463463374607431768211507 = drawn1 c k from rfl, mulD_i m1]
  simp only [px, px2, Res.bind_ok, dm]
  rw [show drawn1 c k * drawn1 c k % 340282366920938463463374607431768211297 = drawn2 c k from rfl, mulD_i m2]
  simp only [px, px2, Res.bind_ok, dm]
  rw [mulD_i m3]
  simp only [px, px2, Res.bind_ok, dm, drawnI, drawn3]
def cellI (ns : List Int) (k : Nat) : Int := if ns = [] then (k : Int) * 7919 else ns.getD (k % ns.length) 0 + (k / ns.length : Nat) * 104729
theorem law_cell_ok (ns : List Int) (k : Nat) (h63 : ns.length ≤ 63) : g_law_cell [.list (ns.map .int), .int (k : Int)] = .ok (.int (cellI ns k)) := by
  unfold g_law_cell F_law_cell
  simp only [px, px2, Res.bind_ok, dm, isEmpty_map]
  unfold cellI
  cases h : ns with
  | nil => simp only [List.isEmpty_nil, px, px2, Res.bind_ok, if_true]
  | cons a r =>
    have hl : 0 < ns.length := by rw [h]; exact Nat.succ_pos _
    have hm : k % ns.length < ns.length := Nat.mod_lt _ hl
    rw [← h]
    have hn : ns ≠ [] := by rw [h]; exact fun z => by cases z
    have he : ns.isEmpty = false := by rw [h]; rfl
    have e1 : modD (.int (k : Int)) (.int (ns.length : Int)) = .ok (.int ((k % ns.length : Nat) : Int)) := by
      rw [modD_i (by omega), Int.natCast_emod]
    have e2 : fdivD (.int (k : Int)) (.int (ns.length : Int)) = .ok (.int ((k / ns.length : Nat) : Int)) := by
      rw [fdivD_i ⟨by omega, ?_⟩, Int.natCast_ediv]
      rw [Int.natAbs_natCast]
      exact Nat.lt_of_le_of_lt (Nat.log2_le_self _) (by omega)
    have e3 : (ns.map PyData.int)[k % ns.length]? = some (.int (ns.getD (k % ns.length) 0)) := by
      rw [List.getElem?_map, List.getElem?_eq_getElem hm, List.getD_eq_getElem?_getD, List.getElem?_eq_getElem hm]
      rfl
    simp only [he, px, px2, Res.bind_ok, if_neg hn, e1, e2, idx_l e3, dm]
/-! ### picks -/
def pk2 (a b : Int) (i : Int) : Int := if i % 2 = 0 then a else b
def pk3 (a b c : Int) (i : Int) : Int := if i % 3 = 0 then a else if i % 3 = 1 then b else c
theorem pk2_or (a b i : Int) : pk2 a b i = a ∨ pk2 a b i = b := by unfold pk2; split <;> simp
theorem pk3_or (a b c i : Int) : pk3 a b c i = a ∨ pk3 a b c i = b ∨ pk3 a b c i = c := by unfold pk3; repeat (first | split | simp)
theorem idx_pk2 (a b i : Int) : idxD (.list [.int a, .int b]) (.int (i % 2)) = .ok (.int (pk2 a b i)) := by
  unfold pk2
  have h : i % 2 = 0 ∨ i % 2 = 1 := by omega
  rcases h with h | h
  · rw [if_pos h, h]
    exact idx_l (i := 0) rfl
  · rw [if_neg (by omega), h]
    exact idx_l (i := 1) rfl
theorem idx_pk3 (a b c i : Int) : idxD (.list [.int a, .int b, .int c]) (.int (i % 3)) = .ok (.int (pk3 a b c i)) := by
  unfold pk3
  have h : i % 3 = 0 ∨ i % 3 = 1 ∨ i % 3 = 2 := by omega
  rcases h with h | h | h
  · rw [if_pos h, h]
    exact idx_l (i := 0) rfl
  · rw [if_neg (by omega), if_pos h, h]
    exact idx_l (i := 1) rfl
  · rw [if_neg (by omega), if_neg (by omega), h]
    exact idx_l (i := 2) rfl
/-! ### some of so many -/
def someL (m : Int) (n : Nat) (y : Int) : List Nat := (List.range n).filter fun j => decide (0 < drawnI m (500 + (j : Int)) / 16 % y)
theorem filter_ris (n : Nat) (p : Nat → Bool) : Ris ((List.range n).filter p) n := ⟨fun x hx => List.mem_range.mp (List.mem_filter.mp hx).1, List.Pairwise.filter _ List.pairwise_lt_range⟩
theorem someL_ris (m : Int) (n : Nat) (y : Int) : Ris (someL m n y) n := filter_ris _ _
theorem law_some_ok (m : Int) (n : Nat) (y : Int) (hn : n ≤ 1000000) (hy : 0 < y) : g_law_some [.int m, .int (n : Int), .int y] = .ok (eN (someL m n y)) := by
  unfold g_law_some F_law_some
  simp only [px, px2, Res.bind_ok]
  rw [compD_map (fun n : Nat => PyData.int (n : Int)) (fun n => [.int (n : Int)]) (fun j => decide (0 < drawnI m (500 + (j : Int)) / 16 % y)) (fun n => .int (n : Int)) (List.range n) ?_ (fun _ _ => rfl) ?_ ?_]
  · simp only [px, px2, Res.bind_ok, eN, someL]
  · simp only [px, px2, Res.bind_ok]
    exact rngL_nat hn
  · intro j _
    simp only [px, px2, Res.bind_ok, law_drawn_ok, dm, modD_i hy]
  · intro j _ _
    simp only [px, px2, Res.bind_ok]
end PX

/-! plain laws: belts and plans drawn -/
namespace PX
open PySem PySem.Spec PyProof.Rows
def wideI (m : Int) : Int := pk3 100 10 4 (m / 16)
theorem wideI_or (m : Int) : wideI m = 100 ∨ wideI m = 10 ∨ wideI m = 4 := pk3_or _ _ _ _
def nFI (m : Int) : Int := 1 + m / 64 % pk2 6 3 (m / 8)
def faultsL (m : Int) : List Int := (List.range (nFI m).toNat).map fun j : Nat => drawnI m (j : Int) / 16 % wideI m
def spotAt (m : Int) (nf : Nat) (j : Nat) : Spt :=
  (drawnI m (10 + (j : Int)) / 16 % wideI m + pk2 0 (wideI m / 2) (drawnI m (10 + (j : Int)) / 1048576) * (if decide (wideI m < 50) = true then 1 else 0), 1 + drawnI m (10 + (j : Int)) / 1024 % pk2 20 3 (drawnI m (10 + (j : Int)) / 8), someL (drawnI m (10 + (j : Int))) nf (pk3 2 4 3 (m / 4096)))
def kickAt (m : Int) (j : Nat) : Int × Int := (min 99 (drawnI m (30 + (j : Int)) / 16 % (2 * wideI m)), drawnI m (30 + (j : Int)) / 1024 % pk2 21 2 (drawnI m (30 + (j : Int)) / 8))
def nSI (m most : Int) : Int := m / 512 % (most + 1)
def nKI (m : Int) : Int := m / 1073741824 % 4
def beltOf (m most : Int) : Bel := ⟨faultsL m, (List.range (nSI m most).toNat).map (spotAt m (faultsL m).length), (List.range (nKI m).toNat).map (kickAt m)⟩
theorem pk2_pos {a b i : Int} (ha : 0 < a) (hb : 0 < b) : 0 < pk2 a b i := by rcases pk2_or a b i with h | h <;> omega
theorem pk3_pos {a b c i : Int} (ha : 0 < a) (hb : 0 < b) (hc : 0 < c) : 0 < pk3 a b c i := by rcases pk3_or a b c i with h | h | h <;> omega
theorem nFI_is (m : Int) : 1 ≤ nFI m ∧ nFI m ≤ 6 := by
  unfold nFI
  have h := pk2_pos (i := m / 8) (show (0 : Int) < 6 by decide) (show (0 : Int) < 3 by decide)
  have h1 := Int.emod_nonneg (m / 64) (show pk2 6 3 (m / 8) ≠ 0 by omega)
  have h2 := Int.emod_lt_of_pos (m / 64) h
  rcases pk2_or 6 3 (m / 8) with e | e <;> omega
theorem nKI_is (m : Int) : 0 ≤ nKI m ∧ nKI m ≤ 3 := by unfold nKI; omega
theorem nSI_is (m : Int) {most : Int} (h : 0 ≤ most) : 0 ≤ nSI m most ∧ nSI m most ≤ most := by
  unfold nSI
  have h1 := Int.emod_nonneg (m / 512) (show most + 1 ≠ 0 by omega)
  have h2 := Int.emod_lt_of_pos (m / 512) (show 0 < most + 1 by omega)
  omega
theorem faultsL_len (m : Int) : (faultsL m).length = (nFI m).toNat := by unfold faultsL; rw [List.length_map, List.length_range]
theorem mod_in {a w : Int} (h : 0 < w) : 0 ≤ a % w ∧ a % w < w := ⟨Int.emod_nonneg _ (by omega), Int.emod_lt_of_pos _ h⟩
theorem beltOf_ok (m : Int) {most : Int} (h0 : 0 ≤ most) (h8 : most ≤ 8) : (beltOf m most).Ok := by
  have n1 := nFI_is m
  have n2 := nSI_is m h0
  have n3 := nKI_is m
  have hw := wideI_or m
  refine ⟨?_, ?_, ?_, ?_, fun p hp => ?_, fun s hs => ?_, fun k hk => ?_⟩
  · show 1 ≤ (faultsL m).length
    rw [faultsL_len]; omega
  · show (faultsL m).length ≤ 6
    rw [faultsL_len]; omega
  · show ((List.range _).map _).length ≤ 8
    rw [List.length_map, List.length_range]; omega
  · show ((List.range _).map _).length ≤ 3
    rw [List.length_map, List.length_range]; omega
  · obtain ⟨j, _, rfl⟩ := List.mem_map.mp hp
    have q := mod_in (a := drawnI m (j : Int) / 16) (w := wideI m) (by omega)
    omega
  · obtain ⟨j, _, rfl⟩ := List.mem_map.mp hs
    have q := mod_in (a := drawnI m (10 + (j : Int)) / 16) (w := wideI m) (by omega)
    have q2 := mod_in (a := drawnI m (10 + (j : Int)) / 1024) (w := pk2 20 3 (drawnI m (10 + (j : Int)) / 8)) (pk2_pos (by decide) (by decide))
    have q3 := pk2_or 20 3 (drawnI m (10 + (j : Int)) / 8)
    have q4 := pk2_or 0 (wideI m / 2) (drawnI m (10 + (j : Int)) / 1048576)
    refine ⟨?_, ?_, someL_ris _ _ _⟩
    · show 0 ≤ drawnI m (10 + (j : Int)) / 16 % wideI m + pk2 0 (wideI m / 2) (drawnI m (10 + (j : Int)) / 1048576) * _ ∧ _
      by_cases hd : wideI m < 50
      · rw [if_pos (decide_eq_true hd)]
        show 0 ≤ drawnI m (10 + (j : Int)) / 16 % wideI m + pk2 0 (wideI m / 2) (drawnI m (10 + (j : Int)) / 1048576) * 1 ∧ drawnI m (10 + (j : Int)) / 16 % wideI m + pk2 0 (wideI m / 2) (drawnI m (10 + (j : Int)) / 1048576) * (if decide (wideI m < 50) = true then 1 else 0) ≤ 99
        rw [if_pos (decide_eq_true hd)]
        omega
      · rw [if_neg (by simpa using hd)]
        show 0 ≤ drawnI m (10 + (j : Int)) / 16 % wideI m + pk2 0 (wideI m / 2) (drawnI m (10 + (j : Int)) / 1048576) * 0 ∧ drawnI m (10 + (j : Int)) / 16 % wideI m + pk2 0 (wideI m / 2) (drawnI m (10 + (j : Int)) / 1048576) * (if decide (wideI m < 50) = true then 1 else 0) ≤ 99
        rw [if_neg (by simpa using hd)]
        omega
    · show 1 ≤ 1 + drawnI m (10 + (j : Int)) / 1024 % pk2 20 3 (drawnI m (10 + (j : Int)) / 8) ∧ 1 + drawnI m (10 + (j : Int)) / 1024 % pk2 20 3 (drawnI m (10 + (j : Int)) / 8) ≤ 20
      omega
  · obtain ⟨j, _, rfl⟩ := List.mem_map.mp hk
    have q := mod_in (a := drawnI m (30 + (j : Int)) / 16) (w := 2 * wideI m) (by omega)
    have q2 := mod_in (a := drawnI m (30 + (j : Int)) / 1024) (w := pk2 21 2 (drawnI m (30 + (j : Int)) / 8)) (pk2_pos (by decide) (by decide))
    have q3 := pk2_or 21 2 (drawnI m (30 + (j : Int)) / 8)
    show (0 ≤ min 99 (drawnI m (30 + (j : Int)) / 16 % (2 * wideI m)) ∧ min 99 (drawnI m (30 + (j : Int)) / 16 % (2 * wideI m)) ≤ 99) ∧ 0 ≤ drawnI m (30 + (j : Int)) / 1024 % pk2 21 2 (drawnI m (30 + (j : Int)) / 8) ∧ drawnI m (30 + (j : Int)) / 1024 % pk2 21 2 (drawnI m (30 + (j : Int)) / 8) ≤ 20
    omega
theorem beltOf_ss (m : Int) {most : Int} (h0 : 0 ≤ most) : ((beltOf m most).ss.length : Int) ≤ most := by
  have n2 := nSI_is m h0
  show (((List.range _).map _).length : Int) ≤ most
  rw [List.length_map, List.length_range]
  omega
theorem rngL_to {n : Int} (h : -1000000 ≤ n ∧ n ≤ 1000000) : rngL (.int n) = .ok ((List.range n.toNat).map fun (i : Nat) => PyData.int (i : Int)) := rngL_n h
theorem minD_2 (i j : Int) : minD [.int i, .int j] = .ok (.int (min i j)) := rfl
theorem intD_b (b : Bool) : intD [.bool b] = .ok (.int (if b then 1 else 0)) := rfl
theorem law_belt_ok (m : Int) {most : Int} (h0 : 0 ≤ most) (h8 : most ≤ 8) : g_law_belt [.int m, .int most] = .ok (eB (beltOf m most)) := by
  have n1 := nFI_is m
  have n2 := nSI_is m h0
  have n3 := nKI_is m
  have hw := wideI_or m
  have w0 : 0 < wideI m := by omega
  have fl := faultsL_len m
  unfold g_law_belt F_law_belt
  simp only [px, px2, Res.bind_ok, dm, idx_pk3, idx_pk2, modD_i (pk2_pos (i := m / 8) (show (0 : Int) < 6 by decide) (show (0 : Int) < 3 by decide))]
  rw [show pk3 100 10 4 (m / 16) = wideI m from rfl]
  rw [compD_all (fun n : Nat => PyData.int (n : Int)) (fun n => [.int (n : Int)]) (fun j => .int (drawnI m (j : Int) / 16 % wideI m)) (List.range (nFI m).toNat) ?_ (fun _ _ => rfl) fun j _ => ?_]
  · simp only [px, px2, Res.bind_ok, dm]
    have ef : ((List.range (nFI m).toNat).map fun j : Nat => PyData.int (drawnI m (j : Int) / 16 % wideI m)) = (faultsL m).map fun n => .int n := by
      unfold faultsL
      rw [List.map_map]
      rfl
    rw [ef, modD_i (show 0 < most + 1 by omega)]
    simp only [px, px2, Res.bind_ok]
    rw [rngL_to (n := m / 512 % (most + 1)) (by unfold nSI at n2; omega)]
    simp only [px, px2, Res.bind_ok]
    rw [forL_app (List.range (nSI m most).toNat) (fun n : Nat => PyData.int (n : Int)) (fun n => [.int (n : Int)]) (fun acc => [some (.d (.int m)), some (.d (.int most)), some (.d (.int (wideI m))), some (.d (eZ (faultsL m))), some (.mu acc), none, none, none, none, none]) (fun _ => true) (fun j => eS (spotAt m (faultsL m).length j)) [] ?_ ?_ ?_ (fun _ _ => rfl) ?_]
    · simp only [px, px2, Res.bind_ok, dm]
      rw [rngL_to (n := m / 1073741824 % 4) (by unfold nKI at n3; omega)]
      simp only [px, px2, Res.bind_ok]
      rw [forL_app (List.range (nKI m).toNat) (fun n : Nat => PyData.int (n : Int)) (fun n => [.int (n : Int)]) (fun acc => [some (.d (.int m)), some (.d (.int most)), some (.d (.int (wideI m))), some (.d (eZ (faultsL m))), some (.mu (((List.range (nSI m most).toNat).filter fun _ => true).map fun j => eS (spotAt m (faultsL m).length j))), none, none, none, none, some (.mu acc)]) (fun _ => true) (fun j => eK (kickAt m j)) [] ?_ ?_ ?_ (fun _ _ => rfl) ?_]
      · have ft : ∀ n : Nat, (List.range n).filter (fun _ => true) = List.range n := fun n => List.filter_eq_self.mpr fun _ _ => rfl
        simp only [ft, px, px2, Res.bind_ok, frzS]
        rw [if_pos (by rw [List.length_map, List.length_range]; omega)]
        try simp only [px, px2, Res.bind_ok, frzS]
        rw [if_pos (by rw [List.length_map, List.length_range]; omega)]
        simp only [px, px2, Res.bind_ok]
        unfold eB beltOf
        simp only [List.map_map]
        rfl
      · rfl
      · rfl
      · rw [List.length_range]; show 0 + _ ≤ _; omega
      · intro acc hacc j _
        simp only [px, px2, Res.bind_ok, law_drawn_ok, dm, modD_i (show 0 < 2 * wideI m by omega), minD_2, idx_pk2, modD_i (pk2_pos (i := drawnI m (30 + (j : Int)) / 8) (show (0 : Int) < 21 by decide) (show (0 : Int) < 2 by decide)), appF, hacc, if_true, eK, kickAt]
    · rfl
    · rfl
    · rw [List.length_range]; show 0 + _ ≤ _; omega
    · intro acc hacc j _
      have es : g_law_some [.int (drawnI m (10 + (j : Int))), .int ((faultsL m).length : Int), .int (pk3 2 4 3 (m / 4096))] = _ := law_some_ok (drawnI m (10 + (j : Int))) (faultsL m).length (pk3 2 4 3 (m / 4096)) (by omega) (pk3_pos (by decide) (by decide) (by decide))
      simp only [px, px2, Res.bind_ok, law_drawn_ok, dm, eZ, idx_pk3, idx_pk2, es, modD_i w0, intD_b, mulD_i (mulOk_r (i := pk2 0 (wideI m / 2) (drawnI m (10 + (j : Int)) / 1048576)) (j := if decide (wideI m < 50) = true then 1 else 0) (by split <;> decide)), modD_i (pk2_pos (i := drawnI m (10 + (j : Int)) / 8) (show (0 : Int) < 20 by decide) (show (0 : Int) < 3 by decide)), appF, hacc, if_true, eS, spotAt]
  · simp only [px, px2, Res.bind_ok, dm, idx_pk2, modD_i (pk2_pos (i := m / 8) (show (0 : Int) < 6 by decide) (show (0 : Int) < 3 by decide))]
    exact rngL_to (by unfold nFI at n1; omega)
  · simp only [px, px2, Res.bind_ok, law_drawn_ok, dm, modD_i w0]
/-! ### plans -/
def planOf (m : Int) (b : Bel) : Pln := (someL (drawnI m 1) b.ss.length (pk3 2 9 3 (m / 8)), someL (drawnI m 2) b.ks.length (pk3 2 9 3 (m / 8)))
theorem planOf_ok (m : Int) (b : Bel) : POk b (planOf m b) := ⟨someL_ris _ _ _, someL_ris _ _ _⟩
theorem law_plan_ok (m : Int) {b : Bel} (hb : b.Ok) : g_law_plan [.int m, eB b] = .ok (eP (planOf m b)) := by
  have s8 := hb.s8
  have k3 := hb.k3
  unfold g_law_plan F_law_plan eB
  simp only [px, px2, Res.bind_ok, dm, idx_pk3, law_drawn_ok, law_some_ok _ b.ss.length _ (show b.ss.length ≤ 1000000 by omega) (pk3_pos (i := m / 8) (show (0 : Int) < 2 by decide) (show (0 : Int) < 9 by decide) (show (0 : Int) < 3 by decide)), law_some_ok _ b.ks.length _ (show b.ks.length ≤ 1000000 by omega) (pk3_pos (i := m / 8) (show (0 : Int) < 2 by decide) (show (0 : Int) < 9 by decide) (show (0 : Int) < 3 by decide)), eP, planOf]
end PX

/-! plain laws: more is no worse -/
namespace PX
open PySem PySem.Spec PyProof.Rows
theorem Ris.nodup {l : List Nat} {m : Nat} (h : Ris l m) : l.Nodup := h.2.imp fun h => Nat.ne_of_lt h
theorem mem_cand {b : Bel} {ks : List Nat} {p : Int} {q : Pr} : q ∈ kcand b ks p ↔ q.2 ∈ ks ∧ p ≤ (b.kp' q.2).1 ∧ q.1 = (b.kp' q.2).1 := by
  unfold kcand
  rw [List.mem_map]
  constructor
  · rintro ⟨k, hk, rfl⟩
    obtain ⟨h1, h2⟩ := List.mem_filter.mp hk
    exact ⟨h1, of_decide_eq_true h2, rfl⟩
  · rintro ⟨h1, h2, h3⟩
    exact ⟨q.2, List.mem_filter.mpr ⟨h1, decide_eq_true h2⟩, by rw [← h3]⟩
theorem fk_isSome {b : Bel} {ks : List Nat} {p : Int} : (fk b ks p).isSome = true ↔ ∃ k ∈ ks, p ≤ (b.kp' k).1 := by
  unfold fk
  rw [Option.isSome_map]
  constructor
  · intro h
    obtain ⟨q, hq⟩ := Option.isSome_iff_exists.mp h
    have h1 := mem_cand.mp (minO_some hq).1
    exact ⟨q.2, h1.1, h1.2.1⟩
  · rintro ⟨k, h1, h2⟩
    cases h : minO (kcand b ks p) with
    | some q => rfl
    | none =>
      have h3 : ((b.kp' k).1, k) ∈ kcand b ks p := mem_cand.mpr ⟨h1, h2, rfl⟩
      rw [minO_none.mp h] at h3
      cases h3
theorem filter_mono_len {l l' : List Nat} {p p' : Nat → Bool} (hn : l.Nodup) (h : ∀ x ∈ l, p x = true → x ∈ l' ∧ p' x = true) : (l.filter p).length ≤ (l'.filter p').length :=
  List.Nodup.length_le_of_subset (hn.sublist List.filter_sublist) fun x hx => by
    obtain ⟨h1, h2⟩ := List.mem_filter.mp hx
    exact List.mem_filter.mpr (h x h1 h2)
/-- fewer are of use where spots, kickers are fewer and less is seen -/
theorem usefulN_le {b b' : Bel} {p p' : Pln} {f : Nat} (hp : POk b p) (hs : ∀ s ∈ p.1, s ∈ p'.1) (hk : ∀ k ∈ p.2, k ∈ p'.2) (he : ∀ s ∈ p.1, seesB b s f = true → seesB b' s f = true) (hpl : ∀ s ∈ p.1, (b'.sp s).1 = (b.sp s).1) (hks : b'.ks = b.ks) : usefulN b p f ≤ usefulN b' p' f := by
  unfold usefulN usefulL
  refine filter_mono_len hp.1.nodup fun s hm h => ⟨hs s hm, ?_⟩
  rw [Bool.and_eq_true] at h ⊢
  obtain ⟨h1, h2⟩ := h
  refine ⟨he s hm h1, ?_⟩
  obtain ⟨k, h3, h4⟩ := fk_isSome.mp h2
  refine fk_isSome.mpr ⟨k, hk k h3, ?_⟩
  rw [hpl s hm]
  unfold Bel.kp' at h4 ⊢
  rw [hks]
  exact h4
theorem leastI_le {b b' : Bel} {p p' : Pln} (hb : b.Ok) (hb' : b'.Ok) (hf : b'.fs.length = b.fs.length) (h : ∀ f, f < b.fs.length → usefulN b p f ≤ usefulN b' p' f) : leastI b p ≤ leastI b' p' := by
  obtain ⟨⟨f, h1, h2⟩, _⟩ := leastI_is p' hb'
  have h3 := (leastI_is p hb).2 f (by omega)
  have h4 := h f (by omega)
  omega
/-! ### what comes out -/
theorem mem_ocand {b : Bel} {ss bo sl : List Nat} {q : Pr} : q ∈ ocand b ss bo sl ↔ q.2 ∈ ss ∧ (q.2 ∉ sl ∧ ∃ f ∈ bo, seesB b q.2 f = true) ∧ q.1 = (b.sp q.2).1 := by
  unfold ocand
  rw [List.mem_map]
  constructor
  · rintro ⟨k, hk, rfl⟩
    obtain ⟨h1, h2⟩ := List.mem_filter.mp hk
    rw [Bool.and_eq_true, List.any_eq_true, Bool.not_eq_true', decide_eq_false_iff_not] at h2
    exact ⟨h1, h2, rfl⟩
  · rintro ⟨h1, h2, h3⟩
    refine ⟨q.2, List.mem_filter.mpr ⟨h1, ?_⟩, by rw [← h3]⟩
    rw [Bool.and_eq_true, List.any_eq_true, Bool.not_eq_true', decide_eq_false_iff_not]
    exact h2
/-- a bottle goes out just where a spot that doesn't slip sees it, with a kicker behind -/
theorem outL_isSome {b : Bel} {p : Pln} {bo sl : List Nat} : (outL b p bo sl).isSome = true ↔ ∃ s ∈ p.1, s ∉ sl ∧ (∃ f ∈ bo, seesB b s f = true) ∧ ∃ k ∈ p.2, (b.sp s).1 ≤ (b.kp' k).1 := by
  unfold outL
  constructor
  · intro h
    cases e : minO (ocand b p.1 bo sl) with
    | none => rw [e] at h; cases h
    | some q =>
      rw [e, Option.bind_some, Option.isSome_map] at h
      obtain ⟨h1, ⟨h2, h3⟩, h4⟩ := mem_ocand.mp (minO_some e).1
      obtain ⟨k, h5, h6⟩ := fk_isSome.mp h
      exact ⟨q.2, h1, h2, h3, k, h5, by rw [← h4]; exact h6⟩
  · rintro ⟨s, h1, h2, h3, k, h4, h5⟩
    have hm : ((b.sp s).1, s) ∈ ocand b p.1 bo sl := mem_ocand.mpr ⟨h1, ⟨h2, h3⟩, rfl⟩
    cases e : minO (ocand b p.1 bo sl) with
    | none =>
      rw [minO_none.mp e] at hm
      cases hm
    | some q =>
      rw [Option.bind_some, Option.isSome_map]
      have h6 := (minO_some e).2 _ hm
      unfold ltP at h6
      have h7 : ¬ ((b.sp s).1 < q.1 ∨ ((b.sp s).1 = q.1 ∧ (s : Int) < (q.2 : Int))) := of_decide_eq_false h6
      exact fk_isSome.mpr ⟨k, h4, by omega⟩
theorem isNone_of {α : Type} {o o' : Option α} (h : o.isSome = true → o'.isSome = true) (h' : o'.isNone = true) : o.isNone = true := by
  cases o with
  | none => rfl
  | some a => cases o' with
    | none => cases h rfl
    | some _ => cases h'
theorem mem_runL {b : Bel} {p : Pln} {rows : List Row} {n : Nat} : n ∈ runL b p rows ↔ ∃ r, rows[n]? = some r ∧ r.1 ≠ [] ∧ (outL b p r.1 r.2).isNone = true := by
  unfold runL
  rw [List.mem_map]
  constructor
  · rintro ⟨q, hq, rfl⟩
    obtain ⟨h1, h2⟩ := List.mem_filter.mp hq
    rw [Bool.and_eq_true, Bool.not_eq_true', List.isEmpty_eq_false_iff] at h2
    exact ⟨q.1, List.mem_zipIdx_iff_getElem?.mp h1, h2⟩
  · rintro ⟨r, h1, h2⟩
    refine ⟨(r, n), List.mem_filter.mpr ⟨List.mem_zipIdx_iff_getElem?.mpr h1, ?_⟩, rfl⟩
    rw [Bool.and_eq_true, Bool.not_eq_true', List.isEmpty_eq_false_iff]
    exact h2
theorem runL_sub {b : Bel} {p p' : Pln} {rows : List Row} (hs : ∀ s ∈ p.1, s ∈ p'.1) (hk : ∀ k ∈ p.2, k ∈ p'.2) : ∀ n ∈ runL b p' rows, n ∈ runL b p rows := fun n hn => by
  obtain ⟨r, h1, h2, h3⟩ := mem_runL.mp hn
  refine mem_runL.mpr ⟨r, h1, h2, isNone_of (fun h => ?_) h3⟩
  obtain ⟨s, g1, g2, g3, k, g4, g5⟩ := outL_isSome.mp h
  exact outL_isSome.mpr ⟨s, hs s g1, g2, g3, k, hk k g4, g5⟩
/-! ### one more in a rising row -/
def insN (n : Nat) : List Nat → List Nat
  | [] => [n]
  | m :: r => if n < m then n :: m :: r else if n = m then m :: r else m :: insN n r
theorem insN_mem (n k : Nat) : ∀ l : List Nat, k ∈ insN n l ↔ k = n ∨ k ∈ l
  | [] => by simp [insN]
  | m :: r => by
    unfold insN
    split
    · simp
    · split
      · rename_i h1 h2
        subst h2
        simp
      · simp only [List.mem_cons, insN_mem n k r]
        constructor
        · rintro (h | h | h)
          · exact .inr (.inl h)
          · exact .inl h
          · exact .inr (.inr h)
        · rintro (h | h | h)
          · exact .inr (.inl h)
          · exact .inl h
          · exact .inr (.inr h)
theorem insN_up (n : Nat) : ∀ {l : List Nat}, l.Pairwise (· < ·) → (insN n l).Pairwise (· < ·)
  | [], _ => List.pairwise_singleton _ _
  | m :: r, h => by
    obtain ⟨h1, h2⟩ := List.pairwise_cons.mp h
    unfold insN
    split
    · rename_i hl
      exact List.pairwise_cons.mpr ⟨fun y hy => by
        rcases List.mem_cons.mp hy with e | hy
        · subst e; exact hl
        · exact Nat.lt_trans hl (h1 y hy), h⟩
    · split
      · exact h
      · refine List.pairwise_cons.mpr ⟨fun y hy => ?_, insN_up n h2⟩
        rcases (insN_mem n y r).mp hy with e | hy
        · subst e; omega
        · exact h1 y hy
theorem insN_ris {l : List Nat} {n m : Nat} (h : Ris l m) (hn : n < m) : Ris (insN n l) m := ⟨fun x hx => by
  rcases (insN_mem n x l).mp hx with e | hx
  · subst e; exact hn
  · exact h.1 x hx, insN_up n h.2⟩
theorem up_int {l : List Nat} (h : l.Pairwise (· < ·)) : (l.map fun n : Nat => (n : Int)).Pairwise (· < ·) := List.pairwise_map.mpr (h.imp fun h => by omega)
theorem sortU_ins {l : List Nat} {n : Nat} (h : l.Pairwise (· < ·)) : sortU ((l ++ [n]).map fun n : Nat => (n : Int)) = (insN n l).map fun n : Nat => (n : Int) :=
  up_unique (sortU_up _) (up_int (insN_up n h)) fun k => by
    rw [sortU_mem, List.mem_map, List.mem_map]
    constructor
    · rintro ⟨a, ha, rfl⟩
      refine ⟨a, (insN_mem n a l).mpr ?_, rfl⟩
      rcases List.mem_append.mp ha with h | h
      · exact .inr h
      · exact .inl (List.mem_singleton.mp h)
    · rintro ⟨a, ha, rfl⟩
      refine ⟨a, List.mem_append.mpr ?_, rfl⟩
      rcases (insN_mem n a l).mp ha with h | h
      · exact .inr (List.mem_singleton.mpr h)
      · exact .inl h
theorem insN_same {l : List Nat} {n : Nat} (h : l.Pairwise (· < ·)) (hn : n ∈ l) : insN n l = l := by
  induction l with
  | nil => cases hn
  | cons m r ih =>
    obtain ⟨h1, h2⟩ := List.pairwise_cons.mp h
    unfold insN
    rcases List.mem_cons.mp hn with e | hn
    · subst e
      rw [if_neg (by omega), if_pos rfl]
    · have := h1 n hn
      rw [if_neg (by omega), if_neg (by omega), ih h2 hn]
theorem insN_sum (g : Nat → Int) {l : List Nat} {n : Nat} (hn : n ∉ l) : ((insN n l).map g).sum = (l.map g).sum + g n := by
  induction l with
  | nil => simp [insN]
  | cons m r ih =>
    have h1 : n ≠ m := fun e => hn (by rw [e]; exact List.mem_cons_self)
    have h2 : n ∉ r := fun e => hn (List.mem_cons_of_mem _ e)
    unfold insN
    split
    · simp only [List.map_cons, List.sum_cons]; omega
    · simp only [List.map_cons, List.sum_cons, ih h2]
      omega
end PX

/-! plain laws: a bottle's way, place by place -/
namespace PX
open PySem PySem.Spec PyProof.Rows
theorem find_least {l : List Nat} {p : Nat → Bool} {s : Nat} (h : l.Pairwise (· < ·)) (e : l.find? p = some s) : s ∈ l ∧ p s = true ∧ ∀ y ∈ l, p y = true → s ≤ y := by
  induction l with
  | nil => cases e
  | cons a r ih =>
    obtain ⟨h1, h2⟩ := List.pairwise_cons.mp h
    cases hp : p a with
    | true =>
      rw [List.find?_cons_of_pos hp] at e
      cases e
      exact ⟨List.mem_cons_self, hp, fun y hy _ => (List.mem_cons.mp hy).elim (fun e => by omega) fun hy => Nat.le_of_lt (h1 y hy)⟩
    | false =>
      rw [List.find?_cons_of_neg (by simp [hp])] at e
      obtain ⟨a1, a2, a3⟩ := ih h2 e
      refine ⟨List.mem_cons_of_mem _ a1, a2, fun y hy hy2 => ?_⟩
      rcases List.mem_cons.mp hy with e1 | hy
      · subst e1
        rw [hp] at hy2
        cases hy2
      · exact a3 y hy hy2
theorem foldE_snoc {α β : Type} (step : β → α → Sum PyData β) (x : α) : ∀ (xs : List α) (b : β), foldE step (xs ++ [x]) b = match foldE step xs b with
    | .inl d => .inl d
    | .inr b' => step b' x
  | [], b => by
    show foldE step [x] b = step b x
    unfold foldE
    cases step b x <;> rfl
  | y :: ys, b => by
    show foldE step (y :: (ys ++ [x])) b = _
    unfold foldE
    cases step b y with
    | inl d => rfl
    | inr b' => exact foldE_snoc step x ys b'
theorem fold_first {p : Nat → Bool} : ∀ (l : List Nat) (st : Option Nat), l.foldl (fun st s => if (st.isNone && p s) = true then some s else st) st = match st with
    | some s => some s
    | none => l.find? p
  | [], st => by cases st <;> rfl
  | a :: r, st => by
    rw [List.foldl_cons, fold_first r]
    cases st with
    | some s => rfl
    | none =>
      cases hp : p a with
      | true => rw [List.find?_cons_of_pos hp]; rfl
      | false => rw [List.find?_cons_of_neg (by simp [hp])]; rfl
section
variable (b : Bel) (p : Pln) (bo sl : List Nat)
def cnd (P s : Nat) : Bool := decide ((b.sp s).1 = (P : Int)) && (!decide (s ∈ sl) && bo.any fun f => seesB b s f)
def nextSt (P : Nat) (st : Option Nat) : Option Nat := match st with
  | some s => some s
  | none => p.1.find? (cnd b bo sl P)
def stepO (st : Option Nat) (P : Nat) : Sum PyData (Option Nat) := match nextSt b p bo sl P st with
  | none => .inr none
  | some s => match p.2.find? (fun k => decide ((b.kp' k).1 = (P : Int))) with
    | some k => .inl (.tuple [.int (s : Int), .int (k : Int)])
    | none => .inr (some s)
end
theorem mem_ocand' {b : Bel} {ss bo sl : List Nat} {P s : Nat} (h : cnd b bo sl P s = true) (hs : s ∈ ss) : ((P : Int), s) ∈ ocand b ss bo sl := by
  unfold cnd at h
  rw [Bool.and_eq_true, Bool.and_eq_true, List.any_eq_true, Bool.not_eq_true', decide_eq_false_iff_not, decide_eq_true_eq] at h
  exact mem_ocand.mpr ⟨hs, h.2, h.1.symm⟩
theorem cnd_of {b : Bel} {ss bo sl : List Nat} {q : Pr} {P : Nat} (h : q ∈ ocand b ss bo sl) (e : q.1 = (P : Int)) : cnd b bo sl P q.2 = true := by
  obtain ⟨_, h2, h3⟩ := mem_ocand.mp h
  unfold cnd
  rw [Bool.and_eq_true, Bool.and_eq_true, List.any_eq_true, Bool.not_eq_true', decide_eq_false_iff_not, decide_eq_true_eq]
  exact ⟨h3.symm.trans e, h2⟩
def OInv (b : Bel) (p : Pln) (bo sl : List Nat) (n : Nat) (r : Sum PyData (Option Nat)) : Prop := match r with
  | .inl d => ∃ q, outL b p bo sl = some q ∧ d = .tuple [.int (q.1 : Int), .int (q.2 : Int)]
  | .inr none => ∀ q ∈ ocand b p.1 bo sl, (n : Int) ≤ q.1
  | .inr (some s) => ∃ q, minO (ocand b p.1 bo sl) = some q ∧ q.1 < (n : Int) ∧ s = q.2 ∧ ∀ k ∈ p.2, q.1 ≤ (b.kp' k).1 → (n : Int) ≤ (b.kp' k).1
theorem step_inv {b : Bel} {p : Pln} (bo sl : List Nat) (hp : POk b p) (h0 : ∀ s ∈ p.1, 0 ≤ (b.sp s).1) (n : Nat) (st : Option Nat) (h : OInv b p bo sl n (.inr st)) : OInv b p bo sl (n + 1) (stepO b p bo sl st n) := by
  -- the kickers' part, once the spot is known
  have kick : ∀ q, minO (ocand b p.1 bo sl) = some q → q.1 ≤ (n : Int) → (∀ k ∈ p.2, q.1 ≤ (b.kp' k).1 → (n : Int) ≤ (b.kp' k).1) → OInv b p bo sl (n + 1) (match p.2.find? (fun k => decide ((b.kp' k).1 = (n : Int))) with
      | some k => .inl (.tuple [.int (q.2 : Int), .int (k : Int)])
      | none => .inr (some q.2)) := fun q hq hn hk => by
    cases e : p.2.find? (fun k => decide ((b.kp' k).1 = (n : Int))) with
    | none =>
      refine ⟨q, hq, by omega, rfl, fun k hm hle => ?_⟩
      have h1 := hk k hm hle
      have h2 := List.find?_eq_none.mp e k hm
      rw [decide_eq_true_eq] at h2
      omega
    | some k =>
      obtain ⟨a1, a2, a3⟩ := find_least hp.2.2 e
      have a2 := of_decide_eq_true a2
      refine ⟨(q.2, k), ?_, rfl⟩
      unfold outL
      rw [hq, Option.bind_some]
      have hc : ((n : Int), k) ∈ kcand b p.2 q.1 := mem_cand.mpr ⟨a1, (show q.1 ≤ (b.kp' k).1 by omega), a2.symm⟩
      unfold fk
      cases em : minO (kcand b p.2 q.1) with
      | none =>
        rw [minO_none.mp em] at hc
        cases hc
      | some r =>
        obtain ⟨m1, m2⟩ := minO_some em
        obtain ⟨c1, c2, c3⟩ := mem_cand.mp m1
        have c4 := hk r.2 c1 c2
        have c5 := m2 _ hc
        unfold ltP at c5
        have c6 : ¬ ((n : Int) < r.1 ∨ ((n : Int) = r.1 ∧ (k : Int) < (r.2 : Int))) := of_decide_eq_false c5
        have c7 := a3 r.2 c1 (decide_eq_true (by omega))
        have : r.2 = k := by omega
        simp only [Option.map_some, this]
  unfold stepO
  cases st with
  | some s =>
    obtain ⟨q, h1, h2, h3, h4⟩ := h
    subst h3
    exact kick q h1 (by omega) h4
  | none =>
    have h : ∀ q ∈ ocand b p.1 bo sl, (n : Int) ≤ q.1 := h
    show OInv b p bo sl (n + 1) (match p.1.find? (cnd b bo sl n) with
      | none => .inr none
      | some s => match p.2.find? (fun k => decide ((b.kp' k).1 = (n : Int))) with
        | some k => .inl (.tuple [.int (s : Int), .int (k : Int)])
        | none => .inr (some s))
    cases e : p.1.find? (cnd b bo sl n) with
    | none =>
      intro q hq
      have h1 := h q hq
      by_cases h2 : q.1 = (n : Int)
      · exact absurd (cnd_of hq h2) (List.find?_eq_none.mp e q.2 (mem_ocand.mp hq).1)
      · omega
    | some s =>
      obtain ⟨a1, a2, a3⟩ := find_least hp.1.2 e
      have hm := mem_ocand' a2 a1
      cases em : minO (ocand b p.1 bo sl) with
      | none =>
        rw [minO_none.mp em] at hm
        cases hm
      | some q =>
        obtain ⟨m1, m2⟩ := minO_some em
        have c1 := h q m1
        have c5 := m2 _ hm
        unfold ltP at c5
        have c6 : ¬ ((n : Int) < q.1 ∨ ((n : Int) = q.1 ∧ (s : Int) < (q.2 : Int))) := of_decide_eq_false c5
        have c7 := a3 q.2 (mem_ocand.mp m1).1 (cnd_of m1 (by omega))
        have es : s = q.2 := by omega
        subst es
        exact kick q em (by omega) fun k _ hle => by omega
theorem fold_inv {b : Bel} {p : Pln} (bo sl : List Nat) (hp : POk b p) (h0 : ∀ s ∈ p.1, 0 ≤ (b.sp s).1) : ∀ n, OInv b p bo sl n (foldE (stepO b p bo sl) (List.range n) none)
  | 0 => fun q hq => by
    have h1 := mem_ocand.mp hq
    have := h0 q.2 h1.1
    show (0 : Int) ≤ q.1
    omega
  | n + 1 => by
    rw [List.range_succ, foldE_snoc]
    have ih := fold_inv bo sl hp h0 n
    cases e : foldE (stepO b p bo sl) (List.range n) none with
    | inl d => rw [e] at ih; exact ih
    | inr st =>
      rw [e] at ih
      exact step_inv bo sl hp h0 n st ih
theorem Bel.sp_mem {b : Bel} {s : Nat} (h : s < b.ss.length) : b.sp s ∈ b.ss := by
  unfold Bel.sp
  rw [List.getD_eq_getElem?_getD, List.getElem?_eq_getElem h]
  exact List.getElem_mem h
theorem Bel.kp_mem {b : Bel} {s : Nat} (h : s < b.ks.length) : b.kp' s ∈ b.ks := by
  unfold Bel.kp'
  rw [List.getD_eq_getElem?_getD, List.getElem?_eq_getElem h]
  exact List.getElem_mem h
theorem law_out_val {b : Bel} {p : Pln} (bo sl : List Nat) (hb : b.Ok) (hp : POk b p) : (match foldE (stepO b p bo sl) (List.range 100) none with
    | .inl d => d
    | .inr _ => PyData.none) = eOO (outL b p bo sl) := by
  have h := fold_inv bo sl hp (fun s hs => (hb.sp _ (Bel.sp_mem (hp.1.1 s hs))).1.1) 100
  cases e : foldE (stepO b p bo sl) (List.range 100) none with
  | inl d =>
    rw [e] at h
    obtain ⟨q, h1, h2⟩ := h
    rw [h1, h2]
    rfl
  | inr st =>
    rw [e] at h
    have hn : outL b p bo sl = none := by
      cases hh : outL b p bo sl with
      | none => rfl
      | some r =>
        exfalso
        have hs : (outL b p bo sl).isSome = true := by rw [hh]; rfl
        obtain ⟨s, h1, h2, h3, k, h4, h5⟩ := outL_isSome.mp hs
        have hm : ((b.sp s).1, s) ∈ ocand b p.1 bo sl := mem_ocand.mpr ⟨h1, ⟨h2, h3⟩, rfl⟩
        have hs1 := (hb.sp _ (Bel.sp_mem (hp.1.1 s h1))).1
        have hk1 := (hb.kp _ (Bel.kp_mem (hp.2.1 k h4))).1
        cases st with
        | none =>
          have := h _ hm
          simp only at this
          omega
        | some t =>
          obtain ⟨q, g1, g2, g3, g4⟩ := h
          have c5 := (minO_some g1).2 _ hm
          unfold ltP at c5
          have c6 : ¬ ((b.sp s).1 < q.1 ∨ ((b.sp s).1 = q.1 ∧ (s : Int) < (q.2 : Int))) := of_decide_eq_false c5
          have := g4 k h4 (by omega)
          omega
    rw [hn]
    rfl
/-! ### the law's own going -/
theorem isEmpty_filter (l : List Nat) (p : Nat → Bool) : (l.filter p).isEmpty = !l.any p := by
  induction l with
  | nil => rfl
  | cons a r ih =>
    cases hp : p a with
    | true => rw [List.filter_cons_of_pos hp, List.any_cons, hp]; rfl
    | false => rw [List.filter_cons_of_neg (by simp [hp]), List.any_cons, hp, ih]; rfl
theorem law_out_ok {b : Bel} {p : Pln} {bo sl : List Nat} (hb : b.Ok) (hp : POk b p) (h1 : Ris bo b.fs.length) : g_law_out [eB b, eP p, eN bo, eN sl] = .ok (eOO (outL b p bo sl)) := by
  rw [← law_out_val bo sl hb hp]
  unfold g_law_out F_law_out
  simp only [px, px2, Res.bind_ok]
  rw [rngL_to (n := 100) (by decide)]
  simp only [px, px2, Res.bind_ok]
  rw [forL_runE (List.range 100) (fun n : Nat => PyData.int (n : Int)) (fun n => [.int (n : Int)]) (fun st => [some (.d (eB b)), some (.d (eP p)), some (.d (eN bo)), some (.d (eN sl)), some (.d (eO st)), none, none, none, none, none, none]) (stepO b p bo sl) (fun _ => True) none ?_ ?_ trivial (fun _ _ => rfl) fun st _ P _ => ⟨?_, fun _ _ => trivial⟩]
  · cases foldE (stepO b p bo sl) (List.range 100) none with
    | inl d => simp only [endE, px, px2, Res.bind_ok]
    | inr st => simp only [endE, px, px2, Res.bind_ok]
  · rfl
  · rfl
  · simp only [px, px2, eb, Res.bind_ok]
    rw [forL_run p.1 (fun n : Nat => PyData.int (n : Int)) (fun n => [.int (n : Int)]) (fun st => [some (.d (eB b)), some (.d (eP p)), some (.d (eN bo)), some (.d (eN sl)), some (.d (eO st)), some (.d (.int (P : Int))), none, none, none, none, none]) (fun st s => if (st.isNone && cnd b bo sl P s) = true then some s else st) (fun _ => True) st ?_ ?_ trivial (fun _ _ => rfl) fun st _ s hs => ⟨?_, trivial⟩]
    · rw [fold_first]
      have e : (match st with | some s => some s | none => p.1.find? (cnd b bo sl P)) = nextSt b p bo sl P st := rfl
      rw [e]
      unfold stepO
      generalize nextSt b p bo sl P st = st2
      simp only [px, px2, eb, Res.bind_ok]
      rw [forL_find p.2 (fun n : Nat => PyData.int (n : Int)) (fun n => [.int (n : Int)]) (fun k => st2.isSome && decide ((b.kp' k).1 = (P : Int))) (fun k => .tuple [eO st2, .int (k : Int)]) rfl (fun _ _ => rfl) fun k hk => ?_]
      · cases st2 with
        | none =>
          rw [List.find?_eq_none.mpr fun k _ => by simp]
          simp only [endE, px, px2, Res.bind_ok]
        | some s =>
          simp only [Option.isSome_some, px]
          cases p.2.find? (fun k => decide ((b.kp' k).1 = (P : Int))) with
          | none => simp only [endE, px, px2, Res.bind_ok]
          | some k => simp only [endE, px, px2, Res.bind_ok, eO]
      · simp only [px, px2, eb, Res.bind_ok, isNone_eO, idx_t (Bel.ks_at (hp.2.1 k hk))]
        cases h2 : st2.isSome && decide ((b.kp' k).1 = (P : Int)) with
        | true => simp only [px, px2, Res.bind_ok, if_true]
        | false =>
          simp only [px, px2, Res.bind_ok]
          rfl
    · rfl
    · rfl
    · simp only [px, px2, eb, Res.bind_ok, idx_t (Bel.ss_at (hp.1.1 s hs))]
      simp only [eS, px, px2, eb, Res.bind_ok, isNone_eO]
      cases st with
      | some t =>
        simp only [px, px2, eb, Res.bind_ok, Option.isSome_some, Option.isNone_some]
        rfl
      | none =>
        simp only [px, px2, eb, Res.bind_ok, Option.isSome_none, Option.isNone_none]
        unfold cnd
        cases hc : decide ((b.sp s).1 = (P : Int)) && !decide (s ∈ sl) with
        | false =>
          have hc2 : (decide ((b.sp s).1 = (P : Int)) && (!decide (s ∈ sl) && bo.any fun f => seesB b s f)) = false := by rw [← Bool.and_assoc, hc]; rfl
          rw [hc2]
          simp only [px, px2, eb, Res.bind_ok]
          rfl
        | true =>
          have hc2 : (decide ((b.sp s).1 = (P : Int)) && (!decide (s ∈ sl) && bo.any fun f => seesB b s f)) = bo.any fun f => seesB b s f := by rw [← Bool.and_assoc, hc]; rfl
          rw [hc2]
          simp only [px, px2, eb, Res.bind_ok]
          rw [compD_map (fun n : Nat => PyData.int (n : Int)) (fun n => [.int (n : Int)]) (fun f => seesB b s f) (fun n => .int (n : Int)) bo ?_ (fun _ _ => rfl) ?_ ?_]
          · simp only [px, px2, eb, Res.bind_ok, isEmpty_map, isEmpty_filter]
            cases bo.any fun f => seesB b s f with
            | true =>
              simp only [px, px2, eb, Res.bind_ok]
              rfl
            | false =>
              simp only [px, px2, eb, Res.bind_ok]
              rfl
          · simp only [px, px2, eb, Res.bind_ok]
          · intro f hf
            simp only [px, px2, eb, Res.bind_ok]
            simp only [eZ, px, px2, eb, Res.bind_ok, idx_t (Bel.fs_at (h1.1 f hf))]
            rfl
          · intro f hf _
            simp only [px, px2, Res.bind_ok]
end PX

/-! plain laws: all rows -/
namespace PX
open PySem PySem.Spec PyProof.Rows
theorem forL_idx' {is ks : List Nat} {F : Rho → Res Fl} (st : Nat → Rho) : ∀ (m k : Nat), (∀ i, k ≤ i → i < k + m → (F (setsD (st i) is [.int (i : Int)])).bind (Fl.wp ks) = .ok (.nx (st (i + 1)))) →
    forL (fun d => .ok [d]) is ks F ((List.range' k m).map fun i : Nat => PyData.int (i : Int)) (st k) = .ok (.nx (st (k + m)))
  | 0, k, _ => rfl
  | m + 1, k, h => by
    rw [List.range'_succ, List.map_cons, forL_cons rfl, h k (Nat.le_refl _) (by omega)]
    have ih := forL_idx' (is := is) (ks := ks) (F := F) st m (k + 1) fun i h1 h2 => h i (by omega) (by omega)
    rw [show k + 1 + m = k + (m + 1) by omega] at ih
    exact ih
theorem forL_idx {is ks : List Nat} {F : Rho → Res Fl} {ρ : Rho} {ds : List PyData} (n : Nat) (st : Nat → Rho) (hd : ds = (List.range n).map fun i : Nat => PyData.int (i : Int)) (hρ : ρ = st 0) (h : ∀ i, i < n → (F (setsD (st i) is [.int (i : Int)])).bind (Fl.wp ks) = .ok (.nx (st (i + 1)))) :
    forL (fun d => .ok [d]) is ks F ds ρ = .ok (.nx (st n)) := by
  subst hd hρ
  rw [List.range_eq_range']
  have e := forL_idx' (is := is) (ks := ks) (F := F) st n 0 fun i _ h2 => h i (by omega)
  rw [Nat.zero_add] at e
  exact e
def rowsL : Nat → List (List Nat)
  | 0 => [[]]
  | n + 1 => rowsL n ++ (rowsL n).map (· ++ [n])
theorem rowsL_len : ∀ n, (rowsL n).length = 2 ^ n
  | 0 => rfl
  | n + 1 => by
    show (rowsL n ++ (rowsL n).map (· ++ [n])).length = _
    rw [List.length_append, List.length_map, rowsL_len n, Nat.pow_succ]
    omega
theorem Ris.mono {r : List Nat} {n m : Nat} (h : Ris r n) (hm : n ≤ m) : Ris r m := ⟨fun x hx => Nat.lt_of_lt_of_le (h.1 x hx) hm, h.2⟩
theorem ris_snoc {r : List Nat} {n : Nat} : Ris (r ++ [n]) (n + 1) ↔ Ris r n := by
  constructor
  · rintro ⟨h1, h2⟩
    obtain ⟨a, _, c⟩ := List.pairwise_append.mp h2
    exact ⟨fun x hx => c x hx n List.mem_cons_self, a⟩
  · rintro ⟨h1, h2⟩
    refine ⟨fun x hx => ?_, List.pairwise_append.mpr ⟨h2, List.pairwise_singleton _ _, fun x hx y hy => by rw [List.mem_singleton.mp hy]; exact h1 x hx⟩⟩
    rcases List.mem_append.mp hx with h | h
    · exact Nat.lt_succ_of_lt (h1 x h)
    · rw [List.mem_singleton.mp h]
      exact Nat.lt_succ_self _
theorem ris_last {r : List Nat} {n : Nat} (h : Ris r (n + 1)) (hn : n ∈ r) : ∃ t, r = t ++ [n] := by
  have hne : r ≠ [] := fun e => by rw [e] at hn; cases hn
  obtain ⟨t, x, e⟩ : ∃ t x, r = t ++ [x] := ⟨r.dropLast, r.getLast hne, (List.dropLast_concat_getLast hne).symm⟩
  subst e
  rcases List.mem_append.mp hn with h1 | h1
  · obtain ⟨_, _, c⟩ := List.pairwise_append.mp h.2
    have h2 := c n h1 x List.mem_cons_self
    have h3 := h.1 x (List.mem_append.mpr (.inr List.mem_cons_self))
    omega
  · rw [List.mem_singleton.mp h1]
    exact ⟨t, rfl⟩
theorem mem_rowsL : ∀ {n : Nat} {r : List Nat}, r ∈ rowsL n ↔ Ris r n
  | 0, r => by
    show r ∈ [[]] ↔ _
    rw [List.mem_singleton]
    constructor
    · rintro rfl
      exact ⟨(fun x hx => nomatch hx), List.Pairwise.nil⟩
    · intro h
      cases r with
      | nil => rfl
      | cons a t => exact absurd (h.1 a List.mem_cons_self) (Nat.not_lt_zero a)
  | n + 1, r => by
    show r ∈ rowsL n ++ (rowsL n).map (· ++ [n]) ↔ _
    rw [List.mem_append, List.mem_map]
    constructor
    · rintro (h | ⟨t, ht, rfl⟩)
      · exact (mem_rowsL.mp h).mono (Nat.le_succ n)
      · exact ris_snoc.mpr (mem_rowsL.mp ht)
    · intro h
      by_cases hn : n ∈ r
      · obtain ⟨t, rfl⟩ := ris_last h hn
        exact .inr ⟨t, mem_rowsL.mpr (ris_snoc.mp h), rfl⟩
      · exact .inl (mem_rowsL.mpr ⟨fun x hx => by
          have h1 := h.1 x hx
          have h2 : x ≠ n := fun e => hn (e ▸ hx)
          omega, h.2⟩)
theorem law_rows_ok {n : Nat} (hn : n ≤ 8) : g_law_rows [.int (n : Int)] = .ok (.list ((rowsL n).map eN)) := by
  unfold g_law_rows F_law_rows
  simp only [px, px2, Res.bind_ok]
  rw [rngL_nat (n := n) (by omega)]
  simp only [px, px2, Res.bind_ok]
  rw [forL_idx n (fun i => [some (.d (.int (n : Int))), some (.d (.list ((rowsL i).map eN))), none, none]) ?_ ?_ fun i hi => ?_]
  · simp only [px, px2, Res.bind_ok]
  · rfl
  · rfl
  · simp only [px, px2, Res.bind_ok]
    rw [compD_all eN (fun r => [eN r]) (fun r => eN (r ++ [i])) (rowsL i) ?_ (fun _ _ => rfl) fun r hr => ?_]
    · simp only [px, px2, Res.bind_ok]
      have hl : ((rowsL i).map eN).length + ((rowsL i).map fun r => eN (r ++ [i])).length ≤ 1000 := by
        rw [List.length_map, List.length_map, rowsL_len]
        have : 2 ^ i ≤ 2 ^ 8 := Nat.pow_le_pow_right (by decide) (by omega)
        omega
      rw [addD_ll hl]
      simp only [px, px2, Res.bind_ok]
      have e : (rowsL i).map eN ++ (rowsL i).map (fun r => eN (r ++ [i])) = (rowsL (i + 1)).map eN := by
        show _ = (rowsL i ++ (rowsL i).map (· ++ [i])).map eN
        rw [List.map_append, List.map_map]
        rfl
      rw [e]
    · simp only [px, px2, Res.bind_ok]
    · have hr := (mem_rowsL.mp hr).len
      simp only [px, px2, Res.bind_ok, eN]
      rw [addD_tt (by rw [List.length_map]; show r.length + 1 ≤ 1000; omega), List.map_append]
      rfl
/-! ### rows of places in a row -/
def pick (l r : List Nat) : List Nat := r.map fun i => l.getD i 0
theorem pick_mem {l r : List Nat} (h : ∀ i ∈ r, i < l.length) : ∀ x ∈ pick l r, x ∈ l := fun x hx => by
  obtain ⟨i, hi, rfl⟩ := List.mem_map.mp hx
  rw [List.getD_eq_getElem?_getD, List.getElem?_eq_getElem (h i hi)]
  exact List.getElem_mem (h i hi)
theorem getD_lt {l : List Nat} (h : l.Pairwise (· < ·)) {i j : Nat} (hij : i < j) (hj : j < l.length) : l.getD i 0 < l.getD j 0 := by
  rw [List.getD_eq_getElem?_getD, List.getD_eq_getElem?_getD, List.getElem?_eq_getElem hj, List.getElem?_eq_getElem (Nat.lt_trans hij hj)]
  exact List.pairwise_iff_getElem.mp h i j (Nat.lt_trans hij hj) hj hij
theorem pick_ris {l r : List Nat} {m : Nat} (h : Ris l m) (hr : Ris r l.length) : Ris (pick l r) m :=
  ⟨fun x hx => h.1 x (pick_mem hr.1 x hx), List.pairwise_map.mpr (hr.2.imp_of_mem fun {i j} hi hj hij => getD_lt h.2 hij (hr.1 j hj))⟩
/-- every part of a row is picked by some row -/
theorem pick_filter {l : List Nat} {m : Nat} (h : Ris l m) (q : Nat → Bool) : ∃ r, Ris r l.length ∧ pick l r = l.filter q := by
  refine ⟨(List.range l.length).filter fun i => q (l.getD i 0), filter_ris _ _, ?_⟩
  unfold pick
  rw [show (List.range l.length).filter (fun i => q (l.getD i 0)) = (List.range l.length).filter (q ∘ fun i => l.getD i 0) from rfl, ← List.filter_map]
  congr 1
  refine List.ext_getElem (by rw [List.length_map, List.length_range]) fun i h1 h2 => ?_
  rw [List.getElem_map, List.getElem_range, List.getD_eq_getElem?_getD, List.getElem?_eq_getElem h2]
  rfl
end PX

/-! plain laws: truth values in turn, == of a thing with itself, what is let through -/
namespace PX
open PySem PySem.Spec PyProof.Rows
/-! ### truth values sorted -/
def leB (a b : Bool) : Bool := !a || b
theorem sortD_b (bs : List Bool) : sortD [.list (bs.map .bool)] = .ok (.list ((bs.mergeSort leB).map .bool)) := by
  have h : alikeL (bs.map PyData.bool) = true ∧ sortableL (bs.map PyData.bool) = true ∧ (bs.map PyData.bool).all (fun d => decide (d.depth ≤ 40)) = true := by
    refine ⟨List.all_eq_true.mpr fun a ha => List.all_eq_true.mpr fun b hb => ?_, (Bool.or_eq_true _ _).mpr (.inr (List.all_eq_true.mpr fun a ha => ?_)), List.all_eq_true.mpr fun a ha => ?_⟩
    · obtain ⟨a', _, rfl⟩ := List.mem_map.mp ha
      obtain ⟨b', _, rfl⟩ := List.mem_map.mp hb
      rfl
    · obtain ⟨a', _, rfl⟩ := List.mem_map.mp ha
      rfl
    · obtain ⟨a', _, rfl⟩ := List.mem_map.mp ha
      simp [PyData.depth]
  show (if _ then Res.ok (PyData.list ((bs.map PyData.bool).mergeSort (PySem.W.dataLe false id))) else .stuck) = _
  refine (if_pos h).trans ?_
  rw [List.map_mergeSort (s := PySem.W.dataLe false id) fun a _ b _ => ?_]
  rw [PySem.W.dataLe_eq]
  show leB a b = (!PySem.W.dataLt (.bool b) (.bool a))
  rw [PySem.W.dataLt_bool]
  cases a <;> cases b <;> rfl
theorem sort_turned {bs : List Bool} (h : bs.Pairwise fun x y => leB y x = true) : (bs.mergeSort leB).reverse = bs := by
  have e : bs.mergeSort leB = bs.reverse := by
    refine List.Perm.eq_of_pairwise (le := fun a b => leB a b = true) (fun a b _ _ h1 h2 => ?_) (List.pairwise_mergeSort (fun a b c => ?_) (fun a b => ?_) _) (List.pairwise_reverse.mpr h) ((List.mergeSort_perm _ _).trans (List.reverse_perm _).symm)
    · revert h1 h2
      cases a <;> cases b <;> decide
    · cases a <;> cases b <;> cases c <;> decide
    · cases a <;> cases b <;> rfl
  rw [e, List.reverse_reverse]
mutual
theorem eqv_self : ∀ d : PyData, d.canLay0 = true → PyData.eqv d d = true
  | .none, _ => rfl
  | .bool b, _ => by cases b <;> rfl
  | .int i, _ => beq_self_eq_true i
  | .str x, _ => by show (x == x) = true; exact beq_self_eq_true x
  | .list xs, h => eqvAll_self xs h
  | .tuple xs, h => eqvAll_self xs h
  | .dict _, h => by cases h
theorem eqvAll_self : ∀ ds : List PyData, PyData.canLayAll0 ds = true → PyData.eqvAll ds ds = true
  | [], _ => rfl
  | d :: ds, h => by
    have h : (PyData.canLay0 d && PyData.canLayAll0 ds) = true := h
    rw [Bool.and_eq_true] at h
    show (PyData.eqv d d && PyData.eqvAll ds ds) = true
    rw [eqv_self d h.1, eqvAll_self ds h.2]
    rfl
end
theorem neD_self {d : PyData} (h : d.canLay0 = true) (hd : d.depth ≤ 64) : neD d d = .ok (.bool false) := by
  unfold neD
  rw [if_pos (by omega), eqv_self d h]
  rfl
theorem eqD_self {d : PyData} (h : d.canLay0 = true) (hd : d.depth ≤ 64) : eqD d d = .ok (.bool true) := by
  unfold eqD
  rw [if_pos (by omega), eqv_self d h]
theorem bools_lay (bs : List Bool) : PyData.canLay0 (.list (bs.map .bool)) = true ∧ PyData.depth (.list (bs.map .bool)) ≤ 64 := by
  have h1 : PyData.canLayAll0 (bs.map .bool) = true := by
    induction bs with
    | nil => rfl
    | cons b r ih => show (true && PyData.canLayAll0 (r.map .bool)) = true; rw [ih]; rfl
  have h2 : PyData.depthAll (bs.map .bool) = 0 := by
    clear h1
    induction bs with
    | nil => simp [PyData.depthAll]
    | cons b r ih => simp [PyData.depthAll, PyData.depth, ih]
  exact ⟨h1, by simp [PyData.depth, h2]⟩
theorem letsL_none {b : Bel} {p : Pln} {c : Nat} : letsL b p c = none ↔ ∀ f, f < b.fs.length → c < usefulN b p f := by
  unfold letsL
  rw [List.find?_eq_none]
  constructor
  · intro h f hf
    have := h f (List.mem_range.mpr hf)
    rw [decide_eq_true_eq] at this
    omega
  · intro h f hf
    have := h f (List.mem_range.mp hf)
    rw [decide_eq_true_eq]
    omega
theorem isNone_letsD (b : Bel) (p : Pln) (c : Nat) : isNone (letsD b p c) = (letsL b p c).isNone := by
  unfold letsD
  cases letsL b p c <;> rfl
def flags22 (b : Bel) (p : Pln) : List Bool := (List.range 9).map fun c => (letsL b p c).isNone
theorem flags22_down (b : Bel) (p : Pln) : (flags22 b p).Pairwise fun x y => leB y x = true := by
  unfold flags22
  refine List.pairwise_map.mpr (List.pairwise_lt_range.imp fun {x y} hxy => ?_)
  unfold leB
  cases hy : (letsL b p y).isNone with
  | false => rfl
  | true =>
    have h1 := letsL_none.mp (Option.isNone_iff_eq_none.mp hy)
    have h2 : letsL b p x = none := letsL_none.mpr fun f hf => by have := h1 f hf; omega
    rw [h2]
    rfl
theorem maxD_2 (i j : Int) : maxD [.int i, .int j] = .ok (.int (max i j)) := rfl
/-- a loop that ends with one result as soon as one is found -/
theorem forL_any {α : Type} {g : PyData → Res (List PyData)} {is ks : List Nat} {F : Rho → Res Fl} {ρ : Rho} {ds : List PyData} (xs : List α) (enc : α → PyData) (as : α → List PyData) (p : α → Bool) (r : PyData) (hd : ds = xs.map enc)
    (h1 : ∀ x ∈ xs, g (enc x) = .ok (as x)) (h2 : ∀ x ∈ xs, (F (setsD ρ is (as x))).bind (Fl.wp ks) = if p x = true then .ok (.rt r) else .ok (.nx ρ)) : forL g is ks F ds ρ = if xs.any p = true then .ok (.rt r) else .ok (.nx ρ) := by
  rw [forL_find xs enc as p (fun _ => r) hd h1 h2]
  cases h : xs.find? p with
  | none =>
    have e : xs.any p = false := by
      rw [List.any_eq_false]
      exact fun x hx => List.find?_eq_none.mp h x hx
    rw [e]
    rfl
  | some x =>
    have e : xs.any p = true := List.any_eq_true.mpr ⟨x, List.mem_of_find?_eq_some h, List.find?_some h⟩
    rw [e]
    rfl
theorem range_ris (n : Nat) : Ris (List.range n) n := ⟨fun x hx => List.mem_range.mp hx, List.pairwise_lt_range⟩
theorem forL_id {is ks : List Nat} {F : Rho → Res Fl} {ρ : Rho} : ∀ (xs : List PyData), (∀ d ∈ xs, (F (setsD ρ is [d])).bind (Fl.wp ks) = .ok (.nx ρ)) → forL (fun d => .ok [d]) is ks F xs ρ = .ok (.nx ρ)
  | [], _ => rfl
  | d :: ds, h => by
    rw [forL_cons rfl, h d List.mem_cons_self]
    exact forL_id ds fun e he => h e (List.mem_cons_of_mem _ he)
end PX

/-! plain laws: order of data; the best plan -/
namespace PX
open PySem PySem.Spec PyProof.Rows
theorem andR_f {k : Res PyData} : andR (.ok (.bool false)) k = .ok (.bool false) := rfl
theorem andT_f {k : Res Bool} : andT (.ok false) k = .ok false := rfl
theorem orT_t {k : Res Bool} : orT (.ok true) k = .ok true := rfl
theorem orR_t {k : Res PyData} : orR (.ok (.bool true)) k = .ok (.bool true) := rfl
/-! ### order of data -/
abbrev lt (x y : PyData) : Bool := PySem.W.dataLt x y
theorem lt_irr (x : PyData) : lt x x = false := (PyProof.Rows.listOrd PyProof.Rows.itemOrd).irrefl _
theorem lt_tr {x y z : PyData} (h1 : lt x y = true) (h2 : lt y z = true) : lt x z = true := (PyProof.Rows.listOrd PyProof.Rows.itemOrd).trans _ _ _ h1 h2
theorem lt_neg {x y z : PyData} (h1 : lt x y = false) (h2 : lt y z = false) : lt x z = false := by
  cases h : lt x z with
  | false => rfl
  | true =>
    rcases (PyProof.Rows.listOrd PyProof.Rows.itemOrd).negTrans _ (PySem.W.keyToks y) _ h with q | q
    · exact absurd (h1.symm.trans q) (by decide)
    · exact absurd (h2.symm.trans q) (by decide)
theorem lt_as {x y : PyData} (h : lt x y = true) : lt y x = false := by
  cases q : lt y x with
  | false => rfl
  | true => exact absurd ((lt_irr x).symm.trans (lt_tr h q)) (by decide)
theorem lt_total {x y : PyData} (ha : PySem.W.alike x y = true) (h1 : lt x y = false) (h2 : lt y x = false) : PyData.eqv x y = true := by
  have hk : PySem.W.keyToks x = PySem.W.keyToks y := (PyProof.Rows.listOrd PyProof.Rows.itemOrd).total _ _ h1 h2
  cases q : PyData.eqv x y with
  | true => rfl
  | false =>
    have h3 := (PySem.W.toks_eqv x y ha).2 q [.inl 0] [.inl 1]
    rw [hk, PySem.W.lex_pre] at h3
    have h4 : PyProof.Rows.lexLt PyProof.Rows.itemOrd (PySem.W.keyToks y) (PySem.W.keyToks y) = false := lt_irr y
    rw [h4] at h3
    exact absurd h3 (by decide)

/-! ### rows of plans -/
theorem eqv_ints : ∀ l m : List Nat, PyData.eqvAll (l.map fun n : Nat => .int (n : Int)) (m.map fun n : Nat => .int (n : Int)) = decide (l = m)
  | [], [] => rfl
  | [], _ :: _ => rfl
  | _ :: _, [] => rfl
  | a :: l, c :: m => by
    show (((a : Int) == (c : Int)) && PyData.eqvAll (l.map _) (m.map _)) = _
    rw [eqv_ints l m, Bool.eq_iff_iff, Bool.and_eq_true, beq_iff_eq, decide_eq_true_eq, decide_eq_true_eq]
    constructor
    · rintro ⟨h1, h2⟩
      rw [Int.ofNat_inj.mp h1, h2]
    · intro h
      cases h
      exact ⟨rfl, rfl⟩
theorem eqv_P (p q : Pln) : PyData.eqv (eP p) (eP q) = decide (p = q) := by
  show (PyData.eqvAll (p.1.map _) (q.1.map _) && (PyData.eqvAll (p.2.map _) (q.2.map _) && true)) = _
  rw [eqv_ints, eqv_ints, Bool.and_true, Bool.eq_iff_iff, Bool.and_eq_true, decide_eq_true_eq, decide_eq_true_eq, decide_eq_true_eq]
  constructor
  · rintro ⟨h1, h2⟩
    exact Prod.ext h1 h2
  · intro h
    cases h
    exact ⟨rfl, rfl⟩
theorem alike_ints : ∀ l m : List Nat, PySem.W.alikeAll (l.map fun n : Nat => .int (n : Int)) (m.map fun n : Nat => .int (n : Int)) = true
  | [], [] => rfl
  | [], _ :: _ => rfl
  | _ :: _, [] => rfl
  | a :: l, c :: m => alike_ints l m
theorem alike_P (p q : Pln) : PySem.W.alike (eP p) (eP q) = true := by
  show (PySem.W.alikeAll (p.1.map _) (q.1.map _) && (PySem.W.alikeAll (p.2.map _) (q.2.map _) && true)) = true
  rw [alike_ints, alike_ints]
  rfl
def sizeI (p : Pln) : Int := (p.1.length : Int) + (p.2.length : Int)
def rowD (b : Bel) (p : Pln) : PyData := .tuple [.int (costI b p), .int (sizeI p), eP p]
def rowW (b : Bel) (p : Pln) : PyData := .tuple [.int (costI b p), .int (sizeI p), eP p, .int (leastI b p - 1)]
theorem alike_D (b : Bel) (p q : Pln) : PySem.W.alike (rowD b p) (rowD b q) = true := by
  show (true && (true && (PySem.W.alike (eP p) (eP q) && true))) = true
  rw [alike_P]
  rfl
theorem alike_W (b : Bel) (p q : Pln) : PySem.W.alike (rowW b p) (rowW b q) = true := by
  show (true && (true && (PySem.W.alike (eP p) (eP q) && true))) = true
  rw [alike_P]
  rfl
theorem lt_W {b : Bel} {p q : Pln} (h : p ≠ q) : lt (rowW b p) (rowW b q) = lt (rowD b p) (rowD b q) := by
  show PySem.W.dataLt (.tuple _) (.tuple _) = PySem.W.dataLt (.tuple _) (.tuple _)
  rw [PySem.W.dataLt_tuple, PySem.W.dataLt_tuple]
  have e : PyData.eqv (eP p) (eP q) = false := by rw [eqv_P]; exact decide_eq_false h
  rw [PySem.W.dataLt_cons rfl, PySem.W.dataLt_cons rfl, PySem.W.dataLt_cons (alike_P p q), PySem.W.dataLt_cons rfl, PySem.W.dataLt_cons rfl, PySem.W.dataLt_cons rfl, PySem.W.dataLt_cons (alike_P p q), e]
  rfl
theorem lt_D_ne {b : Bel} {p q : Pln} (h : p ≠ q) (h1 : lt (rowD b p) (rowD b q) = false) : lt (rowD b q) (rowD b p) = true := by
  cases h2 : lt (rowD b q) (rowD b p) with
  | true => rfl
  | false =>
    have e := lt_total (alike_D b p q) h1 h2
    have e : ((costI b p == costI b q) && ((sizeI p == sizeI q) && (PyData.eqv (eP p) (eP q) && true))) = true := e
    rw [Bool.and_eq_true, Bool.and_eq_true, Bool.and_true, eqv_P, decide_eq_true_eq] at e
    exact absurd e.2.2 h
/-! ### the least plan of a list -/
def IsMin (b : Bel) (g : Pln → Bool) (xs : List Pln) : Option Pln → Prop
  | none => ∀ q ∈ xs, g q = false
  | some p => p ∈ xs ∧ g p = true ∧ ∀ q ∈ xs, g q = true → lt (rowD b q) (rowD b p) = false
theorem isMin_uniq {b : Bel} {g : Pln → Bool} {xs ys : List Pln} (h : ∀ q, q ∈ xs ↔ q ∈ ys) {o o' : Option Pln} (h1 : IsMin b g xs o) (h2 : IsMin b g ys o') : o = o' := by
  cases o with
  | none =>
    cases o' with
    | none => rfl
    | some p => exact absurd ((h1 p ((h p).mpr h2.1)).symm.trans h2.2.1) (by decide)
  | some p =>
    cases o' with
    | none => exact absurd ((h2 p ((h p).mp h1.1)).symm.trans h1.2.1) (by decide)
    | some q =>
      by_cases e : p = q
      · rw [e]
      · have a := h1.2.2 q ((h q).mpr h2.1) h2.2.1
        have c := h2.2.2 p ((h p).mp h1.1) h1.2.1
        exact absurd ((lt_D_ne e c).symm.trans a) (by decide)
def bestS (b : Bel) (g : Pln → Bool) (o : Option Pln) (q : Pln) : Option Pln :=
  match o with
  | none => if g q = true then some q else none
  | some p => if (lt (rowD b q) (rowD b p) && g q) = true then some q else some p
theorem bestS_min (b : Bel) (g : Pln → Bool) : ∀ (xs ys : List Pln) (o : Option Pln), IsMin b g ys o → IsMin b g (ys ++ xs) (xs.foldl (bestS b g) o)
  | [], ys, o, h => by rw [List.append_nil]; exact h
  | q :: xs, ys, o, h => by
    rw [show ys ++ q :: xs = (ys ++ [q]) ++ xs by rw [List.append_assoc]; rfl]
    refine bestS_min b g xs (ys ++ [q]) _ ?_
    cases o with
    | none =>
      show IsMin b g (ys ++ [q]) (if g q = true then some q else none)
      cases hg : g q with
      | true =>
        refine ⟨List.mem_append.mpr (.inr List.mem_cons_self), hg, fun r hr h2 => ?_⟩
        rcases List.mem_append.mp hr with h3 | h3
        · exact absurd ((h r h3).symm.trans h2) (by decide)
        · rw [List.mem_singleton.mp h3]
          exact lt_irr _
      | false =>
        intro r hr
        rcases List.mem_append.mp hr with h3 | h3
        · exact h r h3
        · rw [List.mem_singleton.mp h3]
          exact hg
    | some p =>
      show IsMin b g (ys ++ [q]) (if (lt (rowD b q) (rowD b p) && g q) = true then some q else some p)
      cases hl : lt (rowD b q) (rowD b p) && g q with
      | true =>
        rw [Bool.and_eq_true] at hl
        refine ⟨List.mem_append.mpr (.inr List.mem_cons_self), hl.2, fun r hr h2 => ?_⟩
        rcases List.mem_append.mp hr with h3 | h3
        · cases h4 : lt (rowD b r) (rowD b q) with
          | false => rfl
          | true => exact absurd ((h.2.2 r h3 h2).symm.trans (lt_tr h4 hl.1)) (by decide)
        · rw [List.mem_singleton.mp h3]
          exact lt_irr _
      | false =>
        refine ⟨List.mem_append.mpr (.inl h.1), h.2.1, fun r hr h2 => ?_⟩
        rcases List.mem_append.mp hr with h3 | h3
        · exact h.2.2 r h3 h2
        · rw [List.mem_singleton.mp h3] at h2 ⊢
          rw [h2, Bool.and_true] at hl
          exact hl

/-! ### all plans -/
def allP (n m : Nat) : List Pln := (rowsL n).flatMap fun r => (rowsL m).map fun t => (r, t)
theorem mem_allP {n m : Nat} {q : Pln} : q ∈ allP n m ↔ Ris q.1 n ∧ Ris q.2 m := by
  unfold allP
  rw [List.mem_flatMap]
  constructor
  · rintro ⟨r, hr, h⟩
    obtain ⟨t, ht, rfl⟩ := List.mem_map.mp h
    exact ⟨mem_rowsL.mp hr, mem_rowsL.mp ht⟩
  · rintro ⟨h1, h2⟩
    exact ⟨q.1, mem_rowsL.mpr h1, List.mem_map.mpr ⟨q.2, mem_rowsL.mpr h2, rfl⟩⟩
theorem all_rows_ok {n : Nat} (hn : n ≤ 8) : g_all_rows [.int (n : Int)] = .ok (.list ((rowsL n).map eN)) := law_rows_ok hn
/-- base inside -/
def inB (base q : Pln) : Bool := base.1.all (fun s => decide (s ∈ q.1)) && base.2.all fun k => decide (k ∈ q.2)
def good (b : Bel) (base : Pln) (c : Nat) (q : Pln) : Bool := inB base q && decide ((c : Int) < leastI b q)
def eR (b : Bel) : Option Pln → PyData
  | none => .none
  | some p => rowD b p
theorem best_bad {b : Bel} {g : Pln → Bool} : ∀ (xs : List Pln) (o : Option Pln), (∀ q ∈ xs, g q = false) → xs.foldl (bestS b g) o = o
  | [], _, _ => rfl
  | q :: xs, o, h => by
    have e : bestS b g o q = o := by
      have hq := h q List.mem_cons_self
      cases o with
      | none => exact if_neg (by rw [hq]; decide)
      | some p => exact if_neg (by rw [hq, Bool.and_false]; decide)
    rw [List.foldl_cons, e]
    exact best_bad xs o fun r hr => h r (List.mem_cons_of_mem _ hr)
def bestO (b : Bel) (base : Pln) (c : Nat) : Option Pln := (allP b.ss.length b.ks.length).foldl (bestS b (good b base c)) none
theorem bestO_min (b : Bel) (base : Pln) (c : Nat) : IsMin b (good b base c) (allP b.ss.length b.ks.length) (bestO b base c) := bestS_min b _ _ [] none fun _ h => nomatch h
def excO (o : Option Pln) : Res PyData := match o with
  | none => .exc "NoPlan"
  | some p => .ok (eP p)
def bestInv (b : Bel) (base : Pln) (c : Nat) (o : Option Pln) : Rho := [some (.d (eB b)), some (.d (eN base.1)), some (.d (eN base.2)), some (.d (.int (c : Int))), some (.d (eR b o)), none, none, none, none, none, none]
theorem depth_int (l : List Nat) : PyData.depthAll (l.map fun n : Nat => .int (n : Int)) = 0 := by
  induction l with
  | nil => simp [PyData.depthAll]
  | cons a r ih => simp [PyData.depthAll, PyData.depth, ih]
theorem ltD_row (b : Bel) (p q : Pln) : ltD (rowD b p) (rowD b q) = .ok (.bool (lt (rowD b p) (rowD b q))) := if_pos ⟨alike_D b p q, rfl, by simp [rowD, eP, eN, PyData.depth, PyData.depthAll, depth_int]⟩
theorem best_ok {b : Bel} {base : Pln} {c : Nat} (hb : b.Ok) : g_best [eB b, eN base.1, eN base.2, .int (c : Int)] = excO (bestO b base c) := by
  have er : g_all_rows [.int (b.ss.length : Int)] = _ := all_rows_ok (n := b.ss.length) hb.s8
  have er' : g_all_rows [.int (b.ks.length : Int)] = _ := all_rows_ok (n := b.ks.length) (Nat.le_trans hb.k3 (by decide))
  unfold g_best F_best
  simp only [px, px2, eb, Res.bind_ok, er]
  rw [forL_run (rowsL b.ss.length) eN (fun r => [eN r]) (bestInv b base c) (fun o r => ((rowsL b.ks.length).map fun t => (r, t)).foldl (bestS b (good b base c)) o) (fun _ => True) none ?_ ?_ trivial (fun _ _ => rfl) fun o _ r hr => ⟨?_, trivial⟩]
  · have e : (rowsL b.ss.length).foldl (fun o r => ((rowsL b.ks.length).map fun t => (r, t)).foldl (bestS b (good b base c)) o) none = bestO b base c := by
      unfold bestO allP
      rw [List.foldl_flatMap]
    rw [e]
    cases bestO b base c with
    | none => simp only [px, px2, bestInv, eR, Res.bind_ok, Res.bind_exc, excO]
    | some p => simp only [px, px2, bestInv, eR, rowD, Res.bind_ok, excO]
  · rfl
  · rfl
  · have hr := mem_rowsL.mp hr
    unfold bestInv
    simp only [px, px2, eb, Res.bind_ok]
    rw [compD_all (fun n : Nat => PyData.int (n : Int)) (fun n => [.int (n : Int)]) (fun s => .bool (decide (s ∈ r))) base.1 ?_ (fun _ _ => rfl) fun s hs => ?_]
    · simp only [px, px2, eb, Res.bind_ok]
      cases hq : base.1.all fun s => decide (s ∈ r) with
      | false =>
        simp only [px, px2, eb, Res.bind_ok]
        rw [best_bad]
        intro q hq'
        obtain ⟨t, _, rfl⟩ := List.mem_map.mp hq'
        show ((base.1.all fun s => decide (s ∈ r)) && _ && _) = false
        rw [hq]
        rfl
      | true =>
        simp only [px, px2, eb, Res.bind_ok, er']
        rw [forL_run (rowsL b.ks.length) eN (fun t => [eN t]) (fun o => [some (.d (eB b)), some (.d (eN base.1)), some (.d (eN base.2)), some (.d (.int (c : Int))), some (.d (eR b o)), some (.d (eN r)), none, none, none, none, none]) (fun o t => bestS b (good b base c) o (r, t)) (fun _ => True) o ?_ ?_ trivial (fun _ _ => rfl) fun o _ t ht => ⟨?_, trivial⟩]
        · simp only [px, px2, eb, Res.bind_ok, List.foldl_map]
        · rfl
        · rfl
        · have ht := mem_rowsL.mp ht
          have hp : POk b (r, t) := ⟨hr, ht⟩
          simp only [px, px2, eb, Res.bind_ok]
          rw [compD_all (fun n : Nat => PyData.int (n : Int)) (fun n => [.int (n : Int)]) (fun s => .bool (decide (s ∈ t))) base.2 ?_ (fun _ _ => rfl) fun s hs => ?_]
          · simp only [px, px2, eb, Res.bind_ok]
            cases hq2 : base.2.all fun s => decide (s ∈ t) with
            | false =>
              have hg : good b base c (r, t) = false := by
                show ((base.1.all fun s => decide (s ∈ r)) && (base.2.all fun s => decide (s ∈ t)) && _) = false
                rw [hq2, Bool.and_false]
                rfl
              simp only [px, px2, eb, Res.bind_ok]
              have e := best_bad (b := b) (g := good b base c) [(r, t)] o fun q h => by rw [List.mem_singleton.mp h]; exact hg
              rw [show bestS b (good b base c) o (r, t) = o from e]
            | true =>
              have hg : good b base c (r, t) = decide ((c : Int) < leastI b (r, t)) := by
                show ((base.1.all fun s => decide (s ∈ r)) && (base.2.all fun s => decide (s ∈ t)) && _) = _
                rw [hq, hq2]
                rfl
              have ec : g_cost_of [eB b, .tuple [eN r, eN t]] = _ := cost_of_ok (p := (r, t)) hp
              have el : g_least_seen [eB b, .tuple [eN r, eN t]] = _ := least_seen_ok (p := (r, t)) hb hp
              simp only [px, px2, eb, Res.bind_ok, ec, el]
              have es : PyData.tuple [.int (costI b (r, t)), .int ((r.length : Int) + (t.length : Int)), .tuple [eN r, eN t]] = rowD b (r, t) := rfl
              cases o with
              | none =>
                cases hc : decide ((c : Int) < leastI b (r, t)) with
                | true =>
                  rw [show bestS b (good b base c) none (r, t) = some (r, t) from if_pos (by rw [hg, hc])]
                  simp only [px, px2, eb, Res.bind_ok, eR, hc, es, orT_t]
                | false =>
                  rw [show bestS b (good b base c) none (r, t) = none from if_neg (by rw [hg, hc]; decide)]
                  simp only [px, px2, eb, Res.bind_ok, eR, hc, orT_t, es]
              | some p =>
                have en : isNone (rowD b p) = false := rfl
                cases hl : lt (rowD b (r, t)) (rowD b p) with
                | false =>
                  rw [show bestS b (good b base c) (some p) (r, t) = some p from if_neg (by rw [hl, Bool.false_and]; decide)]
                  simp only [px, px2, eb, Res.bind_ok, eR, es, ltD_row, hl, en, andT_f]
                | true =>
                  cases hc : decide ((c : Int) < leastI b (r, t)) with
                  | true =>
                    rw [show bestS b (good b base c) (some p) (r, t) = some (r, t) from if_pos (by rw [hl, hg, hc]; rfl)]
                    simp only [px, px2, eb, Res.bind_ok, eR, hc, es, ltD_row, hl, en]
                  | false =>
                    rw [show bestS b (good b base c) (some p) (r, t) = some p from if_neg (by rw [hg, hc, Bool.and_false]; decide)]
                    simp only [px, px2, eb, Res.bind_ok, eR, hc, es, ltD_row, hl, en]
          · simp only [px, px2, eb, Res.bind_ok]
          · simp only [px, px2, eb, Res.bind_ok]
    · simp only [px, px2, eb, Res.bind_ok]
    · simp only [px, px2, eb, Res.bind_ok]
/-! ### least, widened, the most -/
theorem least_ok {b : Bel} {c : Nat} (hb : b.Ok) (hc : c ≤ 8) : g_least [eB b, .int (c : Int)] = excO (bestO b ([], []) c) := by
  have e : g_best [eB b, .tuple [], .tuple [], .int (c : Int)] = excO (bestO b ([], []) c) := best_ok (base := ([], [])) hb
  unfold g_least F_least
  simp only [px, px2, Res.bind_ok, need_belt_ok hb, need_count_ok hc, e]
  cases bestO b ([], []) c <;> simp only [excO, px, Res.bind_ok, Res.bind_exc]
theorem widened_ok {b : Bel} {p : Pln} {c : Nat} (hb : b.Ok) (hp : POk b p) (hc : c ≤ 8) : g_widened [eB b, eP p, .int (c : Int)] = excO (bestO b p c) := by
  unfold g_widened F_widened
  simp only [px, px2, eb, Res.bind_ok, need_belt_ok hb, need_count_ok hc, need_plan_ok hp, best_ok (base := p) hb]
  cases bestO b p c <;> simp only [excO, px, Res.bind_ok, Res.bind_exc]
def wholeP (b : Bel) : Pln := (List.range b.ss.length, List.range b.ks.length)
theorem whole_pok (b : Bel) : POk b (wholeP b) := ⟨range_ris _, range_ris _⟩
theorem most_borne_ok {b : Bel} (hb : b.Ok) : g_most_borne [eB b] = .ok (borneD b (wholeP b)) := by
  have hz := hb.s8
  have hk := hb.k3
  have el : g_least_seen [eB b, .tuple [.tuple ((List.range b.ss.length).map fun i : Nat => .int (i : Int)), .tuple ((List.range b.ks.length).map fun i : Nat => .int (i : Int))]] = _ := least_seen_ok (p := wholeP b) hb (whole_pok b)
  unfold g_most_borne F_most_borne
  simp only [px, px2, eb, Res.bind_ok, need_belt_ok hb]
  rw [rngL_nat (n := b.ss.length) (by omega), rngL_nat (n := b.ks.length) (by omega)]
  simp only [px, px2, eb, Res.bind_ok, el]
  unfold borneD
  by_cases h : 0 < leastI b (wholeP b)
  · simp only [h, if_true, decide_true, px, Res.bind_ok]
  · simp only [h, if_false, decide_false, px, Res.bind_ok]
end PX

/-! plain laws: small common parts -/
namespace PX
open PySem PySem.Spec PyProof.Rows
theorem eN_at {l : List Nat} {i : Nat} (h : i < l.length) : (l.map fun n : Nat => PyData.int (n : Int))[i]? = some (.int ((l.getD i 0 : Nat) : Int)) := by
  rw [List.getElem?_map, List.getElem?_eq_getElem h, List.getD_eq_getElem?_getD, List.getElem?_eq_getElem h]
  rfl
theorem mem_useful {b : Bel} {ss ks : List Nat} {f s : Nat} : s ∈ usefulL b ss ks f ↔ s ∈ ss ∧ seesB b s f = true ∧ ∃ k ∈ ks, (b.sp s).1 ≤ (b.kp' k).1 := by
  unfold usefulL
  rw [List.mem_filter, Bool.and_eq_true, fk_isSome]
theorem outL1 {b : Bel} {p : Pln} {f : Nat} {sl : List Nat} : (outL b p [f] sl).isSome = true ↔ ∃ s ∈ usefulL b p.1 p.2 f, s ∉ sl := by
  rw [outL_isSome]
  constructor
  · rintro ⟨s, h1, h2, ⟨f', hf, h3⟩, h4⟩
    rw [List.mem_singleton.mp hf] at h3
    exact ⟨s, mem_useful.mpr ⟨h1, h3, h4⟩, h2⟩
  · rintro ⟨s, h1, h2⟩
    obtain ⟨a1, a2, a3⟩ := mem_useful.mp h1
    exact ⟨s, a1, h2, ⟨f, List.mem_cons_self, a2⟩, a3⟩
theorem useful_ris {b : Bel} {p : Pln} {f : Nat} (hp : POk b p) : Ris (usefulL b p.1 p.2 f) b.ss.length := ⟨fun x hx => hp.1.1 x (List.mem_filter.mp hx).1, List.Pairwise.filter _ hp.1.2⟩
theorem ris_one {f m : Nat} (h : f < m) : Ris [f] m := ⟨fun x hx => by rw [List.mem_singleton.mp hx]; exact h, List.pairwise_singleton _ _⟩
theorem isNone_eOO' (o : Option (Nat × Nat)) : isNone (eOO o) = o.isNone := by cases o <;> rfl
theorem pok_one {b : Bel} {p : Pln} {s : Nat} (hp : POk b p) (hs : s < b.ss.length) : POk b ([s], p.2) := ⟨ris_one hs, hp.2⟩
theorem out_one {b : Bel} {p : Pln} {f s : Nat} (hs : s ∈ p.1) : (outL b ([s], p.2) [f] []).isSome = (seesB b s f && (fk b p.2 (b.sp s).1).isSome) := by
  have h1 : (outL b ([s], p.2) [f] []).isSome = true ↔ (seesB b s f && (fk b p.2 (b.sp s).1).isSome) = true := by
    rw [outL1, Bool.and_eq_true, fk_isSome]
    constructor
    · rintro ⟨t, ht, _⟩
      obtain ⟨a1, a2⟩ := mem_useful.mp ht
      cases List.mem_singleton.mp a1
      exact a2
    · intro h
      exact ⟨s, mem_useful.mpr ⟨List.mem_cons_self, h⟩, fun z => nomatch z⟩
  cases h2 : (outL b ([s], p.2) [f] []).isSome <;> cases h3 : (seesB b s f && (fk b p.2 (b.sp s).1).isSome) <;> simp_all
theorem not_isNone {α : Type} (o : Option α) : (!o.isNone) = o.isSome := by cases o <;> rfl
theorem law_holds_ok {b : Bel} {p : Pln} {f : Nat} (hb : b.Ok) (hp : POk b p) (hf : f < b.fs.length) : g_law_holds [eB b, eP p, .int (f : Int)] = .ok (.list (dN (usefulL b p.1 p.2 f))) := by
  unfold g_law_holds F_law_holds
  simp only [px, px2, eb, Res.bind_ok]
  rw [compD_map (fun n : Nat => PyData.int (n : Int)) (fun n => [.int (n : Int)]) (fun s => seesB b s f && (fk b p.2 (b.sp s).1).isSome) (fun n => .int (n : Int)) p.1 ?_ (fun _ _ => rfl) ?_ ?_]
  · simp only [px, px2, eb, Res.bind_ok]
    rfl
  · simp only [px, px2, eb, Res.bind_ok]
  · intro s hs
    have eo : g_law_out [eB b, .tuple [.tuple [.int (s : Int)], eN p.2], .tuple [.int (f : Int)], .tuple []] = .ok (eOO (outL b ([s], p.2) [f] [])) := law_out_ok (p := ([s], p.2)) (bo := [f]) (sl := []) hb (pok_one hp (hp.1.1 s hs)) (ris_one hf)
    simp only [px, px2, eb, Res.bind_ok, eo, isNone_eOO', not_isNone, out_one hs]
  · intro s hs _
    simp only [px, px2, eb, Res.bind_ok]
theorem lets_bad {b : Bel} {p : Pln} {d : PyData} (hb : b.Ok) (hp : POk b p) (h : g_need_count [d] = .exc "BadNumber") : g_lets [eB b, eP p, d] = .exc "BadNumber" := by
  unfold g_lets F_lets
  simp only [px, px2, Res.bind_ok, Res.bind_exc, need_belt_ok hb, need_plan_ok hp, h]
theorem need_plan_none {b : Bel} : g_need_plan [eB b, .none] = .exc "BadPlan" := by
  unfold g_need_plan F_need_plan
  simp only [px, px2, Res.bind_ok, Res.bind_exc, orT_t]
theorem lets_noplan {b : Bel} {d : PyData} (hb : b.Ok) : g_lets [eB b, .none, d] = .exc "BadPlan" := by
  unfold g_lets F_lets
  simp only [px, px2, Res.bind_ok, Res.bind_exc, need_belt_ok hb, need_plan_none]
theorem borne_noplan {b : Bel} (hb : b.Ok) : g_borne [eB b, .none] = .exc "BadPlan" := by
  unfold g_borne F_borne
  simp only [px, px2, Res.bind_ok, Res.bind_exc, need_belt_ok hb, need_plan_none]
theorem is_count_bad : (∀ a c, g_is_count [.none, a, c] = .ok (.bool false)) ∧ (∀ t a c, g_is_count [.bool t, a, c] = .ok (.bool false)) ∧ (∀ x a c, g_is_count [.str x, a, c] = .ok (.bool false)) := by
  refine ⟨fun a c => ?_, fun t a c => ?_, fun x a c => ?_⟩ <;>
  · unfold g_is_count F_is_count
    simp only [px, px2, Res.bind_ok, andR_f]
theorem need_count_bad : ∀ d ∈ ([.int (-1), .int 9, .none, .bool true, .str "1"] : List PyData), g_need_count [d] = .exc "BadNumber" := by
  intro d hd
  have e1 : (decide ((0 : Int) ≤ -1) && decide ((-1 : Int) ≤ 8)) = false := rfl
  have e2 : (decide ((0 : Int) ≤ 9) && decide ((9 : Int) ≤ 8)) = false := rfl
  simp only [List.mem_cons, List.not_mem_nil, or_false] at hd
  rcases hd with rfl | rfl | rfl | rfl | rfl <;>
  · unfold g_need_count F_need_count
    simp only [px, px2, Res.bind_ok, Res.bind_exc, is_count_i, is_count_bad, e1, e2]
/-! ### the law -/
theorem usefulN_8 {b : Bel} {p : Pln} (hb : b.Ok) (hp : POk b p) (f : Nat) : usefulN b p f ≤ 8 := Nat.le_trans (List.length_filter_le _ _) (hp.z hb).1
theorem lets_leastI {b : Bel} {p : Pln} (hb : b.Ok) (c : Nat) : (letsL b p c).isNone = decide ((c : Int) < leastI b p) := by
  obtain ⟨⟨f, h1, h2⟩, h3⟩ := leastI_is p hb
  have key : (letsL b p c).isNone = true ↔ (c : Int) < leastI b p := by
    rw [Option.isNone_iff_eq_none, letsL_none]
    constructor
    · intro h
      have := h f h1
      omega
    · intro h g hg
      have := h3 g hg
      omega
  by_cases h : (c : Int) < leastI b p
  · rw [decide_eq_true h]
    exact key.mpr h
  · rw [decide_eq_false h]
    cases hh : (letsL b p c).isNone with
    | false => rfl
    | true => exact absurd (key.mp hh) h
theorem neD_none : neD .none .none = .ok (.bool false) := neD_self rfl (by simp [PyData.depth])
theorem find_filter {l : List Nat} {q : Nat → Bool} {f : Nat} (h : l.find? q = some f) : ∃ t, l.filter q = f :: t := by
  have e : (l.filter q).head? = some f := by rw [List.head?_filter, h]
  cases hl : l.filter q with
  | nil => rw [hl] at e; cases e
  | cons a t => rw [hl] at e; cases e; exact ⟨t, rfl⟩
theorem toldQ_exc {cs : List Str} {c : Str} (h : c ∈ cs) : toldQ cs (.exc c) = .ok (.str c) := if_pos h
theorem neD_str (x : Str) : neD (.str x) (.str x) = .ok (.bool false) := by
  unfold neD
  rw [if_pos (by simp [PyData.depth])]
  show Res.ok (PyData.bool (!(x == x))) = _
  rw [beq_self_eq_true]
  rfl
theorem ints_lay (l : List Nat) : PyData.canLayAll0 (dN l) = true ∧ PyData.depthAll (dN l) = 0 := by
  unfold dN
  induction l with
  | nil => exact ⟨rfl, by simp [PyData.depthAll]⟩
  | cons a r ih => exact ⟨by show (true && PyData.canLayAll0 (r.map _)) = true; rw [ih.1]; rfl, by simp [PyData.depthAll, PyData.depth, ih.2]⟩
theorem neD_ints (l : List Nat) : neD (.list (dN l)) (.list (dN l)) = .ok (.bool false) := neD_self (ints_lay l).1 (by simp [PyData.depth, (ints_lay l).2])
theorem neD_tints (l : List Nat) : neD (.tuple (dN l)) (.tuple (dN l)) = .ok (.bool false) := neD_self (ints_lay l).1 (by simp [PyData.depth, (ints_lay l).2])
/-- one count of slips -/
theorem lets_found {b : Bel} {p : Pln} {c f : Nat} (h : letsL b p c = some f) : f < b.fs.length ∧ (usefulN b p f : Int) ≤ (c : Int) := by
  unfold letsL at h
  exact ⟨List.mem_range.mp (List.mem_of_find?_eq_some h), of_decide_eq_true (List.find?_some (p := fun f => decide ((usefulN b p f : Int) ≤ (c : Int))) h)⟩
end PX

/-! plain laws: what the least plan is -/
namespace PX
open PySem PySem.Spec PyProof.Rows
theorem forL_pre {α : Type} {g : PyData → Res (List PyData)} {is ks : List Nat} {F : Rho → Res Fl} {ρ : Rho} {ds : List PyData} (enc : α → PyData) (as : α → List PyData) (inv : List α → Rho) (xs : List α) (hd : ds = xs.map enc) (hρ : ρ = inv [])
    (h1 : ∀ x ∈ xs, g (enc x) = .ok (as x)) (h2 : ∀ pre x post, xs = pre ++ x :: post → (F (setsD (inv pre) is (as x))).bind (Fl.wp ks) = .ok (.nx (inv (pre ++ [x])))) : forL g is ks F ds ρ = .ok (.nx (inv xs)) := by
  subst hd hρ
  have key : ∀ (post pre : List α), xs = pre ++ post → forL g is ks F (post.map enc) (inv pre) = .ok (.nx (inv xs)) := by
    intro post
    induction post with
    | nil => intro pre e; rw [e, List.append_nil]; rfl
    | cons x post ih =>
      intro pre e
      rw [List.map_cons, forL_cons (h1 x (by rw [e]; exact List.mem_append.mpr (.inr List.mem_cons_self))), h2 pre x post e]
      exact ih (pre ++ [x]) (by rw [e, List.append_assoc]; rfl)
  exact key xs [] rfl
def toldP (o : Option Pln) : PyData := match o with
  | none => .str "NoPlan"
  | some p => eP p
/-! ### what the least plan is -/
theorem inB_nil (q : Pln) : inB ([], []) q = true := rfl
theorem inB_whole {b : Bel} {p : Pln} (hp : POk b p) : inB p (wholeP b) = true := by
  unfold inB wholeP
  rw [Bool.and_eq_true, List.all_eq_true, List.all_eq_true]
  exact ⟨fun s hs => decide_eq_true (List.mem_range.mpr (hp.1.1 s hs)), fun s hs => decide_eq_true (List.mem_range.mpr (hp.2.1 s hs))⟩
theorem least_whole {b : Bel} {p : Pln} (hb : b.Ok) (hp : POk b p) : leastI b p ≤ leastI b (wholeP b) :=
  leastI_le hb hb rfl fun f _ => usefulN_le hp (fun s hs => List.mem_range.mpr (hp.1.1 s hs)) (fun k hk => List.mem_range.mpr (hp.2.1 k hk)) (fun _ _ h => h) (fun _ _ => rfl) rfl
theorem good_iff {b : Bel} {base q : Pln} {c : Nat} : good b base c q = true ↔ inB base q = true ∧ (c : Int) < leastI b q := by
  unfold good
  rw [Bool.and_eq_true, decide_eq_true_eq]
theorem bestO_none {b : Bel} {base : Pln} {c : Nat} (hb : b.Ok) (hbase : POk b base) : (bestO b base c).isNone = decide (leastI b (wholeP b) - 1 < (c : Int)) := by
  have h := bestO_min b base c
  cases ho : bestO b base c with
  | none =>
    rw [ho] at h
    have h1 := h (wholeP b) (mem_allP.mpr (whole_pok b))
    have h2 : ¬ (c : Int) < leastI b (wholeP b) := fun hc => by
      rw [good_iff.mpr ⟨inB_whole hbase, hc⟩] at h1
      cases h1
    rw [Option.isNone_none, decide_eq_true (by omega)]
  | some p =>
    rw [ho] at h
    obtain ⟨h1, h2⟩ := good_iff.mp h.2.1
    have h3 := least_whole hb (mem_allP.mp h.1)
    rw [Option.isNone_some, decide_eq_false (by omega)]
theorem cost_le {b : Bel} {p q : Pln} (h : lt (rowD b q) (rowD b p) = false) : costI b p ≤ costI b q := by
  have e : lt (rowD b q) (rowD b p) = PySem.W.dataLt (.tuple _) (.tuple _) := rfl
  rw [e, PySem.W.dataLt_tuple, PySem.W.dataLt_cons rfl, PySem.W.dataLt_int] at h
  by_cases hh : costI b q < costI b p
  · have h1 : PyData.eqv (.int (costI b q)) (.int (costI b p)) = false := by
      show (costI b q == costI b p) = false
      rw [beq_eq_false_iff_ne]
      omega
    rw [h1, if_neg (by decide), decide_eq_true hh] at h
    cases h
  · omega
theorem bestO_wider {b : Bel} {base p q : Pln} {c c' : Nat} (hc : c ≤ c') (h1 : bestO b ([], []) c = some p) (h2 : bestO b base c' = some q) : costI b p ≤ costI b q := by
  have a1 := bestO_min b ([], []) c
  have a2 := bestO_min b base c'
  rw [h1] at a1
  rw [h2] at a2
  have h3 := (good_iff.mp a2.2.1).2
  exact cost_le (a1.2.2 q a2.1 (good_iff.mpr ⟨inB_nil q, by omega⟩))
theorem bestO_again {b : Bel} {p : Pln} {c : Nat} (h1 : bestO b ([], []) c = some p) : bestO b p c = some p := by
  have a1 := bestO_min b ([], []) c
  rw [h1] at a1
  refine isMin_uniq (fun q => Iff.rfl) (bestO_min b p c) ⟨a1.1, good_iff.mpr ⟨?_, (good_iff.mp a1.2.1).2⟩, fun q hq hg => a1.2.2 q hq (good_iff.mpr ⟨inB_nil q, (good_iff.mp hg).2⟩)⟩
  unfold inB
  rw [Bool.and_eq_true, List.all_eq_true, List.all_eq_true]
  exact ⟨fun s hs => decide_eq_true hs, fun s hs => decide_eq_true hs⟩
theorem sortD_up {xs : List Int} (h : xs.Pairwise (· ≤ ·)) : sortD [.list (xs.map .int)] = .ok (.list (xs.map .int)) := by
  have hh : alikeL (xs.map PyData.int) = true ∧ sortableL (xs.map PyData.int) = true ∧ (xs.map PyData.int).all (fun d => decide (d.depth ≤ 40)) = true := by
    refine ⟨List.all_eq_true.mpr fun a ha => List.all_eq_true.mpr fun b hb => ?_, (Bool.or_eq_true _ _).mpr (.inr (List.all_eq_true.mpr fun a ha => ?_)), List.all_eq_true.mpr fun a ha => ?_⟩
    · obtain ⟨a', _, rfl⟩ := List.mem_map.mp ha
      obtain ⟨b', _, rfl⟩ := List.mem_map.mp hb
      rfl
    · obtain ⟨a', _, rfl⟩ := List.mem_map.mp ha
      rfl
    · obtain ⟨a', _, rfl⟩ := List.mem_map.mp ha
      simp [PyData.depth]
  show (if _ then Res.ok (PyData.list ((xs.map PyData.int).mergeSort (PySem.W.dataLe false id))) else .stuck) = _
  refine (if_pos hh).trans ?_
  rw [List.mergeSort_of_pairwise]
  rw [List.pairwise_map]
  refine h.imp fun {a b} hab => ?_
  rw [PySem.W.dataLe_eq]
  show (!PySem.W.dataLt (.int b) (.int a)) = true
  rw [PySem.W.dataLt_int, decide_eq_false (by omega)]
  rfl
theorem eP_lay (p : Pln) : (eP p).canLay0 = true ∧ (eP p).depth ≤ 64 := by
  refine ⟨?_, by simp [eP, eN, PyData.depth, PyData.depthAll, depth_int]⟩
  show (PyData.canLayAll0 (dN p.1) && (PyData.canLayAll0 (dN p.2) && true)) = true
  rw [(ints_lay p.1).1, (ints_lay p.2).1]
  rfl
theorem neD_told (o : Option Pln) : neD (toldP o) (toldP o) = .ok (.bool false) := by
  cases o with
  | none => exact neD_str _
  | some p => exact neD_self (eP_lay p).1 (eP_lay p).2
theorem eqD_told (o : Option Pln) : eqD (toldP o) (.str "NoPlan") = .ok (.bool o.isNone) := by
  unfold eqD
  rw [if_pos (by simp [PyData.depth])]
  cases o with
  | none => rfl
  | some p => rfl
theorem neD_told' (o : Option Pln) : neD (toldP o) (.str "NoPlan") = .ok (.bool (!o.isNone)) := by
  unfold neD
  rw [if_pos (by simp [PyData.depth])]
  cases o with
  | none => rfl
  | some p => rfl
theorem toldQ_best {cs : List Str} (h : ("NoPlan" : Str) ∈ cs) (o : Option Pln) : toldQ cs (excO o) = .ok (toldP o) := by
  cases o with
  | none => exact if_pos h
  | some p => rfl
theorem maxD_list {α : Type} {f : α → Int} {l : List α} {m : Int} (h1 : ∃ x ∈ l, f x = m) (h2 : ∀ x ∈ l, f x ≤ m) : maxD [.list (l.map fun x => .int (f x))] = .ok (.int m) := by
  obtain ⟨x, hx, e⟩ := h1
  have hl : 0 < (l.map f).length := by
    rw [List.length_map]
    exact List.length_pos_of_mem hx
  obtain ⟨a1, a2⟩ := maxOf_mem hl
  obtain ⟨y, hy, ey⟩ := List.mem_map.mp a1
  have h3 := a2 m (e ▸ List.mem_map.mpr ⟨x, hx, rfl⟩)
  have h4 := h2 y hy
  unfold maxD
  simp only [intsOf_map]
  rw [if_neg (fun h => by rw [h] at hl; exact Nat.lt_irrefl _ hl), show maxOf (l.map f) = m by omega]
theorem intl_lay (l : List Int) : PyData.canLayAll0 (l.map .int) = true ∧ PyData.depthAll (l.map .int) = 0 := by
  induction l with
  | nil => exact ⟨rfl, by simp [PyData.depthAll]⟩
  | cons a r ih => exact ⟨by show (true && PyData.canLayAll0 (r.map _)) = true; rw [ih.1]; rfl, by simp [PyData.depthAll, PyData.depth, ih.2]⟩
theorem widened_noplan {b : Bel} {d : PyData} (hb : b.Ok) : g_widened [eB b, .none, d] = .exc "BadPlan" := by
  unfold g_widened F_widened
  simp only [px, px2, Res.bind_ok, Res.bind_exc, need_belt_ok hb, need_plan_none]
theorem least_bad {b : Bel} {d : PyData} (hb : b.Ok) (h : g_need_count [d] = .exc "BadNumber") : g_least [eB b, d] = .exc "BadNumber" := by
  unfold g_least F_least
  simp only [px, px2, Res.bind_ok, Res.bind_exc, need_belt_ok hb, h]
theorem widened_bad {b : Bel} {p : Pln} {d : PyData} (hb : b.Ok) (hp : POk b p) (h : g_need_count [d] = .exc "BadNumber") : g_widened [eB b, eP p, d] = .exc "BadNumber" := by
  unfold g_widened F_widened
  simp only [px, px2, Res.bind_ok, Res.bind_exc, need_belt_ok hb, need_plan_ok hp, h]
theorem pok_nil (b : Bel) : POk b ([], []) := by
  refine ⟨⟨?_, List.Pairwise.nil⟩, ⟨?_, List.Pairwise.nil⟩⟩
  · intro x hx
    cases hx
  · intro x hx
    cases hx
end PX

/-! plain laws: what is a belt, a plan, a bottle: of any data -/
namespace PX
open PySem PySem.Spec PyProof.Rows
def isCnt (d : PyData) (lo hi : Int) : Bool := match d with
  | .int n => decide (lo ≤ n) && decide (n ≤ hi)
  | _ => false
theorem is_count_any (d : PyData) (lo hi : Int) : g_is_count [d, .int lo, .int hi] = .ok (.bool (isCnt d lo hi)) := by
  cases d with
  | int n => exact is_count_i n lo hi
  | _ => rfl
def toInt (d : PyData) : Int := match d with
  | .int n => n
  | _ => 0
def upB (l : List Int) : Bool := (l.dropLast.zip l.tail).all fun p => decide (p.1 < p.2)
def risB (d : PyData) (m : Int) : Bool := match d with
  | .tuple ds => ds.all (fun x => isCnt x 0 (m - 1)) && upB (ds.map toInt)
  | _ => false
theorem ints_of {ds : List PyData} {lo hi : Int} (h : ds.all (fun x => isCnt x lo hi) = true) : ds = (ds.map toInt).map .int := by
  induction ds with
  | nil => rfl
  | cons d r ih =>
    rw [List.all_cons, Bool.and_eq_true] at h
    rw [List.map_cons, List.map_cons, ← ih h.2]
    cases d with
    | int n => rfl
    | _ => exact absurd h.1 (by simp [isCnt])
theorem is_rising_any (d : PyData) (m : Int) : g_is_rising [d, .int m] = .ok (.bool (risB d m)) := by
  cases d with
  | tuple ds =>
    unfold g_is_rising F_is_rising
    simp only [px, Res.bind_ok]
    rw [compD_all (fun d : PyData => d) (fun d => [d]) (fun d => .bool (isCnt d 0 (m - 1))) ds (by simp only [px, Res.bind_ok, List.map_id']) (fun _ _ => rfl) fun n _ => by simp only [px, Res.bind_ok, is_count_any]]
    cases h : ds.all fun x => isCnt x 0 (m - 1) with
    | false =>
      have e : risB (.tuple ds) m = false := by
        show ((ds.all fun x => isCnt x 0 (m - 1)) && _) = false
        rw [h]
        rfl
      simp only [px, Res.bind_ok, allD_b, h, e, orT_bb]
    | true =>
      have e : risB (.tuple ds) m = upB (ds.map toInt) := by
        show ((ds.all fun x => isCnt x 0 (m - 1)) && _) = _
        rw [h]
        rfl
      have hd := ints_of h
      rw [e]
      simp only [px, Res.bind_ok, allD_b, h, orT_bb]
      generalize hl : ds.map toInt = l at hd ⊢
      subst hd
      rw [compD_all (fun p : Int × Int => PyData.tuple [.int p.1, .int p.2]) (fun p => [.int p.1, .int p.2]) (fun p => .bool (decide (p.1 < p.2))) (l.dropLast.zip l.tail) ?_ (fun _ _ => rfl) fun p _ => by simp only [px, px2, Res.bind_ok]]
      · simp only [px, px2, Res.bind_ok, upB]
      · simp only [px, px2, Res.bind_ok, toI, sliceD, cut_init, cut_tail, zipD, ← List.map_dropLast, ← List.map_tail, List.zip_map, List.map_map]
        rfl
  | _ => rfl
def spotB (d : PyData) (m : Int) : Bool := match d with
  | .tuple [a, b, c] => isCnt a 0 99 && (isCnt b 1 20 && risB c m)
  | _ => false
def kickB (d : PyData) : Bool := match d with
  | .tuple [a, b] => isCnt a 0 99 && isCnt b 0 20
  | _ => false
theorem orT_f {k : Res Bool} : orT (.ok false) k = k := by
  cases k with
  | ok b => cases b <;> rfl
  | _ => rfl
theorem andR_t {k : Res PyData} : andR (.ok (.bool true)) k = k := rfl
theorem andR_f' {k : Res PyData} : andR (.ok (.bool false)) k = .ok (.bool false) := rfl
theorem orT_t' {k : Res Bool} : orT (.ok true) k = .ok true := rfl
theorem len3 (l : List PyData) : (∃ a b c, l = [a, b, c]) ∨ l.length ≠ 3 := by
  rcases l with _ | ⟨a, _ | ⟨b, _ | ⟨c, _ | ⟨d, r⟩⟩⟩⟩
  · exact .inr (by simp)
  · exact .inr (by simp)
  · exact .inr (by simp)
  · exact .inl ⟨a, b, c, rfl⟩
  · exact .inr (by simp)
theorem len2 (l : List PyData) : (∃ a b, l = [a, b]) ∨ l.length ≠ 2 := by
  rcases l with _ | ⟨a, _ | ⟨b, _ | ⟨c, r⟩⟩⟩
  · exact .inr (by simp)
  · exact .inr (by simp)
  · exact .inl ⟨a, b, rfl⟩
  · exact .inr (by simp)
theorem spotB_no {l : List PyData} {m : Int} (h : l.length ≠ 3) : spotB (.tuple l) m = false := by
  rcases l with _ | ⟨a, _ | ⟨b, _ | ⟨c, _ | ⟨d, r⟩⟩⟩⟩ <;> first | rfl | exact absurd rfl h
theorem kickB_no {l : List PyData} (h : l.length ≠ 2) : kickB (.tuple l) = false := by
  rcases l with _ | ⟨a, _ | ⟨b, _ | ⟨c, r⟩⟩⟩ <;> first | rfl | exact absurd rfl h
theorem is_spot_any (d : PyData) (m : Int) : g_is_spot [d, .int m] = .ok (.bool (spotB d m)) := by
  cases d with
  | tuple ds =>
    rcases len3 ds with ⟨a, b, c, rfl⟩ | h
    · unfold g_is_spot F_is_spot
      simp only [px, px2, Res.bind_ok, is_count_any, is_rising_any]
      show _ = Res.ok (PyData.bool (isCnt a 0 99 && (isCnt b 1 20 && risB c m)))
      cases h1 : isCnt a 0 99 with
      | false => simp only [px, px2, Res.bind_ok, orT_f, orT_t', bl_all]
      | true => simp only [px, px2, Res.bind_ok, orT_f, orT_t', is_count_any, is_rising_any, bl_all]
    · have e : decide ((ds.length : Int) = 3) = false := decide_eq_false (by omega)
      rw [spotB_no h]
      unfold g_is_spot F_is_spot
      simp only [px, px2, Res.bind_ok, lenD_t, e, orT_f, orT_t', bl_all]
  | _ => rfl
theorem is_kicker_any (d : PyData) : g_is_kicker [d] = .ok (.bool (kickB d)) := by
  cases d with
  | tuple ds =>
    rcases len2 ds with ⟨a, b, rfl⟩ | h
    · unfold g_is_kicker F_is_kicker
      simp only [px, px2, Res.bind_ok, is_count_any]
      rfl
    · have e : decide ((ds.length : Int) = 2) = false := decide_eq_false (by omega)
      rw [kickB_no h]
      unfold g_is_kicker F_is_kicker
      simp only [px, px2, Res.bind_ok, lenD_t, e, orT_f, orT_t', bl_all]
  | _ => rfl
def beltB (d : PyData) : Bool := match d with
  | .tuple [.tuple fs, .tuple ss, .tuple ks] => (decide (1 ≤ fs.length) && decide (fs.length ≤ 6)) && (decide (ss.length ≤ 8) && (decide (ks.length ≤ 3) && (fs.all (fun x => isCnt x 0 99) && (ss.all (fun x => spotB x fs.length) && ks.all kickB))))
  | _ => false
theorem beltB_len {l : List PyData} (h : l.length ≠ 3) : beltB (.tuple l) = false := by
  rcases l with _ | ⟨a, _ | ⟨b, _ | ⟨c, _ | ⟨d, r⟩⟩⟩⟩ <;> first | rfl | exact absurd rfl h | (unfold beltB; split <;> first | rfl | (rename_i e; simp at e))
theorem beltB_part {a b c : PyData} (h : (isTup a && (isTup b && (isTup c && true))) = false) : beltB (.tuple [a, b, c]) = false := by
  unfold beltB
  split
  · rename_i e
    cases e
    cases h
  · rfl
theorem tup_of {d : PyData} (h : isTup d = true) : ∃ l, d = .tuple l := by
  cases d with
  | tuple l => exact ⟨l, rfl⟩
  | _ => cases h
theorem is_belt_any (d : PyData) : g_is_belt [d] = .ok (.bool (beltB d)) := by
  cases d with
  | tuple ds =>
    rcases len3 ds with ⟨a, b, c, rfl⟩ | h
    · unfold g_is_belt F_is_belt
      simp only [px, px2, Res.bind_ok]
      rw [compD_all (fun d : PyData => d) (fun d => [d]) (fun d => .bool (isTup d)) [a, b, c] rfl (fun _ _ => rfl) fun d _ => by simp only [px, Res.bind_ok]]
      have al : allD [.list [.bool (isTup a), .bool (isTup b), .bool (isTup c)]] = .ok (.bool (isTup a && (isTup b && (isTup c && true)))) := rfl
      cases h : isTup a && (isTup b && (isTup c && true)) with
      | false =>
        rw [h] at al
        rw [beltB_part h]
        simp only [px, px2, Res.bind_ok, al, orT_f, orT_t']
      | true =>
        have h2 := h
        rw [Bool.and_true, Bool.and_eq_true, Bool.and_eq_true] at h2
        obtain ⟨⟨fs, rfl⟩, ⟨ss, rfl⟩, ⟨ks, rfl⟩⟩ := (⟨tup_of h2.1, tup_of h2.2.1, tup_of h2.2.2⟩ : _ ∧ _ ∧ _)
        have al2 : allD [.list [.bool true, .bool true, .bool true]] = .ok (.bool true) := rfl
        have c1 : (decide ((1 : Int) ≤ (fs.length : Int)) && decide ((fs.length : Int) ≤ 6)) = (decide (1 ≤ fs.length) && decide (fs.length ≤ 6)) := by
          rw [decide_eq_decide.mpr (show (1 : Int) ≤ (fs.length : Int) ↔ 1 ≤ fs.length by omega), decide_eq_decide.mpr (show (fs.length : Int) ≤ 6 ↔ fs.length ≤ 6 by omega)]
        have c2 : decide ((8 : Int) < (ss.length : Int)) = !decide (ss.length ≤ 8) := by
          rw [← decide_not]
          exact decide_eq_decide.mpr (by omega)
        have c3 : decide ((3 : Int) < (ks.length : Int)) = !decide (ks.length ≤ 3) := by
          rw [← decide_not]
          exact decide_eq_decide.mpr (by omega)
        simp only [px, px2, Res.bind_ok, al2, orT_f, orT_t', lenD_t, c1, c2, c3]
        show _ = Res.ok (PyData.bool ((decide (1 ≤ fs.length) && decide (fs.length ≤ 6)) && (decide (ss.length ≤ 8) && (decide (ks.length ≤ 3) && (fs.all (fun x => isCnt x 0 99) && (ss.all (fun x => spotB x fs.length) && ks.all kickB))))))
        cases h3 : decide (1 ≤ fs.length) && decide (fs.length ≤ 6) with
        | false => simp only [px, px2, Res.bind_ok, orT_f, orT_t', bl_all]
        | true =>
          cases h4 : decide (ss.length ≤ 8) with
          | false => simp only [px, px2, Res.bind_ok, orT_f, orT_t', bl_all]
          | true =>
            cases h5 : decide (ks.length ≤ 3) with
            | false => simp only [px, px2, Res.bind_ok, orT_f, orT_t', bl_all]
            | true =>
              simp only [px, px2, Res.bind_ok, orT_f, orT_t', bl_all]
              rw [compD_all (fun d : PyData => d) (fun d => [d]) (fun d => .bool (isCnt d 0 99)) fs (by simp only [px, px2, Res.bind_ok, List.map_id']) (fun _ _ => rfl) fun d _ => by simp only [px, Res.bind_ok, is_count_any]]
              simp only [px, px2, Res.bind_ok, allD_b]
              cases h6 : fs.all fun x => isCnt x 0 99 with
              | false => simp only [px, px2, Res.bind_ok, orT_f, orT_t', bl_all]
              | true =>
                simp only [px, px2, Res.bind_ok, orT_f, orT_t', bl_all]
                rw [compD_all (fun d : PyData => d) (fun d => [d]) (fun d => .bool (spotB d fs.length)) ss (by simp only [px, px2, Res.bind_ok, List.map_id']) (fun _ _ => rfl) fun d _ => by simp only [px, Res.bind_ok, lenD_t, is_spot_any]]
                simp only [px, px2, Res.bind_ok, allD_b]
                cases h7 : ss.all fun x => spotB x fs.length with
                | false => simp only [px, px2, Res.bind_ok, andR_f', bl_all]
                | true =>
                  rw [compD_all (fun d : PyData => d) (fun d => [d]) (fun d => .bool (kickB d)) ks (by simp only [px, px2, Res.bind_ok, List.map_id']) (fun _ _ => rfl) fun d _ => by simp only [px, Res.bind_ok, is_kicker_any]]
                  simp only [px, px2, Res.bind_ok, allD_b, bl_all, andR_t]
    · have e : decide ((ds.length : Int) = 3) = false := decide_eq_false (by omega)
      rw [beltB_len h]
      unfold g_is_belt F_is_belt
      simp only [px, px2, Res.bind_ok, lenD_t, e, orT_f, orT_t', bl_all]
  | _ => rfl
theorem need_belt_any (d : PyData) : g_need_belt [d] = if beltB d = true then .ok .none else .exc "BadBelt" := by
  unfold g_need_belt F_need_belt
  cases h : beltB d <;> simp only [px, Res.bind_ok, Res.bind_exc, is_belt_any, h, if_true, if_false, Bool.false_eq_true]
def planB (b : Bel) (d : PyData) : Bool := match d with
  | .tuple [s, k] => risB s b.ss.length && risB k b.ks.length
  | _ => false
theorem planB_no {b : Bel} {l : List PyData} (h : l.length ≠ 2) : planB b (.tuple l) = false := by
  rcases l with _ | ⟨a, _ | ⟨b, _ | ⟨c, r⟩⟩⟩ <;> first | rfl | exact absurd rfl h
theorem need_plan_any (b : Bel) (d : PyData) : g_need_plan [eB b, d] = if planB b d = true then .ok .none else .exc "BadPlan" := by
  cases d with
  | tuple ds =>
    rcases len2 ds with ⟨s, k, rfl⟩ | h
    · unfold g_need_plan F_need_plan
      simp only [px, px2, eb, Res.bind_ok, is_rising_any, List.length_map]
      show _ = if (risB s b.ss.length && risB k b.ks.length) = true then _ else _
      cases h1 : risB s b.ss.length with
      | false => simp only [px, px2, Res.bind_ok, Res.bind_exc, orT_f, orT_t', bl_all, if_false, Bool.false_eq_true]
      | true =>
        cases h2 : risB k b.ks.length with
        | false => simp only [px, px2, eb, Res.bind_ok, Res.bind_exc, orT_f, orT_t', bl_all, if_false, Bool.false_eq_true, is_rising_any, List.length_map, h2]
        | true => simp only [px, px2, eb, Res.bind_ok, Res.bind_exc, orT_f, orT_t', bl_all, if_true, is_rising_any, List.length_map, h2]
    · have e : decide ((ds.length : Int) = 2) = false := decide_eq_false (by omega)
      rw [planB_no h]
      unfold g_need_plan F_need_plan
      simp only [px, px2, Res.bind_ok, Res.bind_exc, lenD_t, e, orT_f, orT_t', bl_all, if_false, Bool.false_eq_true]
  | _ => rfl
end PX

namespace Hd
open PySem PySem.Spec PyProof.Rows L2
def top (i : Nat) : Stmt := PySem.Challenge.pw_beltlooks_k50_whole_texts.main.body.getD i (.Pass ⟨0, 0, 0, 0⟩)
abbrev s_is_count : Stmt := top 15
def d_is_count : He.DefD := ⟨("is_count", none), "is_count", "is_count", defArgs s_is_count, defBody s_is_count, defScope s_is_count, [], []⟩
abbrev s_is_rising : Stmt := top 16
def d_is_rising : He.DefD := ⟨("is_rising", none), "is_rising", "is_rising", defArgs s_is_rising, defBody s_is_rising, defScope s_is_rising, [], []⟩
abbrev s_is_spot : Stmt := top 17
def d_is_spot : He.DefD := ⟨("is_spot", none), "is_spot", "is_spot", defArgs s_is_spot, defBody s_is_spot, defScope s_is_spot, [], []⟩
abbrev s_is_kicker : Stmt := top 18
def d_is_kicker : He.DefD := ⟨("is_kicker", none), "is_kicker", "is_kicker", defArgs s_is_kicker, defBody s_is_kicker, defScope s_is_kicker, [], []⟩
abbrev s_is_belt : Stmt := top 19
def d_is_belt : He.DefD := ⟨("is_belt", none), "is_belt", "is_belt", defArgs s_is_belt, defBody s_is_belt, defScope s_is_belt, [], []⟩
abbrev s_need_belt : Stmt := top 20
def d_need_belt : He.DefD := ⟨("need_belt", none), "need_belt", "need_belt", defArgs s_need_belt, defBody s_need_belt, defScope s_need_belt, [], []⟩
abbrev s_numbers_text : Stmt := top 23
def d_numbers_text : He.DefD := ⟨("numbers_text", none), "numbers_text", "numbers_text", defArgs s_numbers_text, defBody s_numbers_text, defScope s_numbers_text, [], []⟩
abbrev s_belt_text : Stmt := top 24
def d_belt_text : He.DefD := ⟨("belt_text", none), "belt_text", "belt_text", defArgs s_belt_text, defBody s_belt_text, defScope s_belt_text, [], []⟩
abbrev s_written : Stmt := top 25
def d_written : He.DefD := ⟨("written", none), "written", "written", defArgs s_written, defBody s_written, defScope s_written, [], []⟩
abbrev s_number_in : Stmt := top 26
def d_number_in : He.DefD := ⟨("number_in", none), "number_in", "number_in", defArgs s_number_in, defBody s_number_in, defScope s_number_in, [], []⟩
abbrev s_numbers_in : Stmt := top 27
def d_numbers_in : He.DefD := ⟨("numbers_in", none), "numbers_in", "numbers_in", defArgs s_numbers_in, defBody s_numbers_in, defScope s_numbers_in, [], []⟩
abbrev s_parts_in : Stmt := top 28
def d_parts_in : He.DefD := ⟨("parts_in", none), "parts_in", "parts_in", defArgs s_parts_in, defBody s_parts_in, defScope s_parts_in, [], []⟩
abbrev s_read : Stmt := top 29
def d_read : He.DefD := ⟨("read", none), "read", "read", defArgs s_read, defBody s_read, defScope s_read, [], []⟩
abbrev s__law_cell : Stmt := top 31
def d__law_cell : He.DefD := ⟨("_law_cell", none), "_law_cell", "_law_cell", defArgs s__law_cell, defBody s__law_cell, defScope s__law_cell, [], []⟩
abbrev s__law_drawn : Stmt := top 32
def d__law_drawn : He.DefD := ⟨("_law_drawn", none), "_law_drawn", "_law_drawn", defArgs s__law_drawn, defBody s__law_drawn, defScope s__law_drawn, [], []⟩
abbrev s__law_word : Stmt := top 33
def d__law_word : He.DefD := ⟨("_law_word", none), "_law_word", "_law_word", defArgs s__law_word, defBody s__law_word, defScope s__law_word, [], []⟩
abbrev s__law_told : Stmt := top 34
def d__law_told : He.DefD := ⟨("_law_told", none), "_law_told", "_law_told", defArgs s__law_told, defBody s__law_told, defScope s__law_told, [], []⟩
abbrev s__law_some : Stmt := top 35
def d__law_some : He.DefD := ⟨("_law_some", none), "_law_some", "_law_some", defArgs s__law_some, defBody s__law_some, defScope s__law_some, [], []⟩
abbrev s__law_belt : Stmt := top 36
def d__law_belt : He.DefD := ⟨("_law_belt", none), "_law_belt", "_law_belt", defArgs s__law_belt, defBody s__law_belt, defScope s__law_belt, [], []⟩
abbrev s__law_written : Stmt := top 37
def d__law_written : He.DefD := ⟨("_law_written", none), "_law_written", "_law_written", defArgs s__law_written, defBody s__law_written, defScope s__law_written, [], []⟩
abbrev s_law : Stmt := top 38
def d_law : He.DefD := ⟨("law", none), "law", "law", defArgs s_law, defBody s_law, defScope s_law, [], []⟩
def fn : List He.DefD := [d_is_count, d_is_rising, d_is_spot, d_is_kicker, d_is_belt, d_need_belt, d_numbers_text, d_belt_text, d_written, d_number_in, d_numbers_in, d_parts_in, d_read, d__law_cell, d__law_drawn, d__law_word, d__law_told, d__law_some, d__law_belt, d__law_written, d_law]
def fa : List He.Fa := [.glo "is_count", .glo "is_rising", .glo "is_spot", .glo "is_kicker", .glo "is_belt", .glo "need_belt", .glo "numbers_text", .glo "belt_text", .glo "written", .glo "number_in", .glo "numbers_in", .glo "parts_in", .glo "read", .glo "_law_cell", .glo "_law_drawn", .glo "_law_word", .glo "_law_told", .glo "_law_some", .glo "_law_belt", .glo "_law_written", .glo "law", .glo "BeltError", .glo "BadBelt", .glo "BadPlan", .glo "BadBottle", .glo "BadNumber", .glo "BadPaper", .glo "NoPlan", .glo "BadText", .free "ValueError", .free "all", .free "bool", .free "int", .free "isinstance", .free "len", .free "max", .free "min", .free "range", .free "str", .free "sum", .free "tuple", .free "zip", .int "MOST_PLACE" 99, .int "MOST_COST" 20, .int "MOST_FAULTS" 6, .int "MOST_SPOTS" 8, .int "MOST_KICKERS" 3, .str "FIGURES" "0123456789", .exc "BeltError", .exc "BadBelt", .exc "BadPlan", .exc "BadBottle", .exc "BadNumber", .exc "BadPaper", .exc "NoPlan", .exc "BadText", .exm "BeltError" "BeltError" true, .exm "BadBelt" "BeltError" true, .exm "BadPlan" "BeltError" true, .exm "BadBottle" "BeltError" true, .exm "BadNumber" "BeltError" true, .exm "BadPaper" "BeltError" true, .exm "NoPlan" "BeltError" true, .exm "BadText" "BeltError" true]
def tf : List He.Defn := [("law", none)]
def ecB (K : PySem.W.Frag) (D : Addr) : Bool := He.eqO (PySem.W.findIn K (.ref D) "__getattribute__") (some (some (.builtin "BaseException.__getattribute__"))) && (He.eqO (PySem.W.findIn K (.ref D) "__getattr__") (some none) && (PySem.W.hasDictIn K D && (He.eqO (PySem.W.findIn K (.ref D) "__class__") (some (some (.builtin "object.__class__"))) && (He.eqO (PySem.W.specialIn K (.builtin "object.__class__") "__get__") (some (some (.builtin "getset_descriptor.__get__"))) && (decide (PySem.W.takesIn K (.builtin "object.__class__") = some true) && (decide (PySem.W.mroIn K D (.type "object") = some true) && decide (PySem.W.kitOne K (.ref D) (.type "ValueError") = some true)))))))
def exNames : List Str := ["BeltError", "BadBelt", "BadPlan", "BadBottle", "BadNumber", "BadPaper", "NoPlan", "BadText"]
def ex (K : PySem.W.Frag) : Bool := exNames.all (fun x => ecB K (He.ga K x)) && exNames.all (fun x => exNames.all fun y => decide (PySem.W.kitOne K (.ref (He.ga K x)) (.ref (He.ga K y)) = some (x == y || y == "BeltError"))) && decide ((tf.map fun p => (He.cT K p).2).Nodup)
theorem ec_ok {K : PySem.W.Frag} {D : Addr} (h : ecB K D = true) (hs : PySem.W.subIn K (.ref D) (.type "BaseException") = some true) : ExcC K D ∧ PySem.W.kitOne K (.ref D) (.type "ValueError") = some true := by
  unfold ecB at h
  simp only [Bool.and_eq_true, decide_eq_true_eq] at h
  obtain ⟨h1, h2, h3, h4, h5, h6, h7, h8⟩ := h
  exact ⟨⟨He.eqO_ok h1, He.eqO_ok h2, hs, h3, He.eqO_ok h4, He.eqO_ok h5, h6, h7⟩, h8⟩
theorem ex_ok {K : PySem.W.Frag} (h : ex K = true) : (∀ x ∈ exNames, ecB K (He.ga K x) = true) ∧ (∀ x ∈ exNames, ∀ y ∈ exNames, PySem.W.kitOne K (.ref (He.ga K x)) (.ref (He.ga K y)) = some (x == y || y == "BeltError")) ∧ (tf.map fun p => (He.cT K p).2).Nodup := by
  unfold ex at h
  simp only [Bool.and_eq_true, List.all_eq_true, decide_eq_true_eq] at h
  exact ⟨h.1.1, h.1.2, h.2⟩
abbrev R : PySem.W.OpenRow := PySem.W.OpenLaw.row PySem.Challenge.rw_beltlooks_k50_whole_texts
abbrev hk : PySem.W.Hook := He.hookX 4 fa fn [] tf ex
def ob (s : PySem.W.SharedT) : He.AlX := He.obsX 4 fa fn [] tf ex (HandSHeadRun.getT s)
theorem ob_eq (s : PySem.W.SharedT) : ob s = hk.obs s.abs := He.obsX_eq (HandSHeadRun.getT_eq s)
def lo0 : List Str := ["BeltError", "BadBelt", "BadPlan", "BadBottle", "BadNumber", "BadPaper", "NoPlan", "BadText", "MOST_PLACE", "MOST_COST", "MOST_FAULTS", "MOST_SPOTS", "MOST_KICKERS", "FIGURES", "is_count", "is_rising", "is_spot", "is_kicker", "is_belt", "need_belt", "numbers_text", "belt_text", "written", "number_in", "numbers_in", "parts_in", "read", "_law_cell", "_law_drawn", "_law_word"]
def lo1 : List Str := ["_law_told", "_law_some", "_law_belt", "_law_written"]
def loose : List Str := lo0 ++ lo1
theorem run (w : World) : HandSHeadRun.RunEq R (PySem.W.view R.prog [38]) hk ob 6000 loose w := by
  intro os
  kernel_rfl
end Hd

namespace PX
open PySem PySem.Spec PyProof.Rows L2 LamX HotX L2H
noncomputable section
def F_numbers_text : Rho → Res Fl := (fun (ρ : Rho) => ((iteR (((((((rget ρ 0).bind fun d => .ok [d]).bind lenD)).bind fun d => ((.ok (.int 0) : Res PyData)).bind fun d' => gtI d d').bind toB)) (((((.ok (.str ",") : Res PyData)).bind strT).bind fun s => ((compD (fun ρ => ((rget ρ 0).bind itD)) (fun d => .ok [d]) [1] (([("number", 1)] : List (Str × Nat)).map (·.2)) cYes (fun ρ => ((((rget ρ 1).bind fun d => ((.ok [] : Res (List PyData))).bind fun ds => .ok (d :: ds))).bind strD)) ρ)).bind fun d' => joinD s d')) ((.ok (.str "-") : Res PyData)))).bind fun d => .ok (.rt d))
def g_numbers_text : List PyData → Res PyData := runF 2 F_numbers_text
def F_belt_text : Rho → Res Fl := (fun (ρ : Rho) => (setF 1 (((((((rget ρ 0).bind fun d => ((.ok (.int 0) : Res PyData)).bind fun d' => idxD d d')).bind fun d => ((.ok [] : Res (List PyData))).bind fun ds => .ok (d :: ds))).bind g_numbers_text)) ρ).bind (Fl.go (fun (ρ : Rho) => (setF 2 (((((.ok (.str " ") : Res PyData)).bind strT).bind fun s => ((compD (fun ρ => ((((rget ρ 0).bind fun d => ((.ok (.int 1) : Res PyData)).bind fun d' => idxD d d')).bind itD)) (gT (gC (fun d => .ok [d]) (gC (fun d => .ok [d]) (gC (fun d => .ok [d]) gN)))) ([4] ++ ([5] ++ ([6] ++ []))) (([("place", 4), ("cost", 5), ("own", 6)] : List (Str × Nat)).map (·.2)) cYes (fun ρ => ((((((((((((rget ρ 4).bind fun d => ((.ok [] : Res (List PyData))).bind fun ds => .ok (d :: ds))).bind strD)).bind fun d => ((.ok (.str ":") : Res PyData)).bind fun d' => addD d d')).bind fun d => (((((rget ρ 5).bind fun d => ((.ok [] : Res (List PyData))).bind fun ds => .ok (d :: ds))).bind strD)).bind fun d' => addD d d')).bind fun d => ((.ok (.str ":") : Res PyData)).bind fun d' => addD d d')).bind fun d => (((((rget ρ 6).bind fun d => ((.ok [] : Res (List PyData))).bind fun ds => .ok (d :: ds))).bind g_numbers_text)).bind fun d' => addD d d')) ρ)).bind fun d' => joinD s d')) ρ).bind (Fl.go (fun (ρ : Rho) => (setF 3 (((((.ok (.str " ") : Res PyData)).bind strT).bind fun s => ((compD (fun ρ => ((((rget ρ 0).bind fun d => ((.ok (.int 2) : Res PyData)).bind fun d' => idxD d d')).bind itD)) (gT (gC (fun d => .ok [d]) (gC (fun d => .ok [d]) gN))) ([4] ++ ([5] ++ [])) (([("place", 4), ("cost", 5)] : List (Str × Nat)).map (·.2)) cYes (fun ρ => ((((((((rget ρ 4).bind fun d => ((.ok [] : Res (List PyData))).bind fun ds => .ok (d :: ds))).bind strD)).bind fun d => ((.ok (.str ":") : Res PyData)).bind fun d' => addD d d')).bind fun d => (((((rget ρ 5).bind fun d => ((.ok [] : Res (List PyData))).bind fun ds => .ok (d :: ds))).bind strD)).bind fun d' => addD d d')) ρ)).bind fun d' => joinD s d')) ρ).bind (Fl.go (fun (ρ : Rho) => (((((((((rget ρ 1).bind fun d => ((.ok (.str "|") : Res PyData)).bind fun d' => addD d d')).bind fun d => (rget ρ 2).bind fun d' => addD d d')).bind fun d => ((.ok (.str "|") : Res PyData)).bind fun d' => addD d d')).bind fun d => (rget ρ 3).bind fun d' => addD d d')).bind fun d => .ok (.rt d))))))))
def g_belt_text : List PyData → Res PyData := runF 7 F_belt_text
def F_written : Rho → Res Fl := (fun (ρ : Rho) => ((((((rget ρ 0).bind fun d => ((.ok [] : Res (List PyData))).bind fun ds => .ok (d :: ds))).bind g_need_belt)).bind fun _ => .ok (.nx ρ)).bind (Fl.go (fun (ρ : Rho) => (((((rget ρ 0).bind fun d => ((.ok [] : Res (List PyData))).bind fun ds => .ok (d :: ds))).bind g_belt_text)).bind fun d => .ok (.rt d))))
def g_written : List PyData → Res PyData := runF 1 F_written
def F_number_in : Rho → Res Fl := (fun (ρ : Rho) => (iteR ((orT (((((chR leI leI ((.ok (.int 1) : Res PyData)) ((((rget ρ 0).bind fun d => .ok [d]).bind lenD)) ((.ok (.int 2) : Res PyData))).bind toB)).bind fun b => .ok (!b))) ((((((((((compD (fun ρ => ((rget ρ 0).bind itS)) (fun d => .ok [d]) [1] (([("sign", 1)] : List (Str × Nat)).map (·.2)) cYes (fun ρ => ((rget ρ 1).bind fun d => ((.ok (.str "0123456789") : Res PyData)).bind fun d' => inS d d')) ρ)).bind fun d => ((.ok [] : Res (List PyData))).bind fun ds => .ok (d :: ds))).bind allD)).bind toB)).bind fun b => .ok (!b))))) ((fun (ρ : Rho) => .exc "BadText") ρ) ((fun (ρ : Rho) => .ok (.nx ρ)) ρ)).bind (Fl.go (fun (ρ : Rho) => (((((rget ρ 0).bind fun d => ((.ok [] : Res (List PyData))).bind fun ds => .ok (d :: ds))).bind intS)).bind fun d => .ok (.rt d))))
def g_number_in : List PyData → Res PyData := runF 2 F_number_in
def F_numbers_in : Rho → Res Fl := (fun (ρ : Rho) => ((iteR ((((rget ρ 0).bind fun d => ((.ok (.str "-") : Res PyData)).bind fun d' => neD d d').bind toB)) ((((((compX (fun ρ => (((((rget ρ 0).bind strT).bind fun s => ((.ok (.str ",") : Res PyData)).bind fun d' => splitD s d')).bind itD)) (fun d => .ok [d]) [1] (([("part", 1)] : List (Str × Nat)).map (·.2)) cYes (fun ρ => ((((rget ρ 1).bind fun d => ((.ok [] : Res (List PyData))).bind fun ds => .ok (d :: ds))).bind g_number_in)) ρ)).bind fun d => ((.ok [] : Res (List PyData))).bind fun ds => .ok (d :: ds))).bind tupleD)) ((((.ok [] : Res (List PyData))).bind fun ds => (.ok (.tuple ds) : Res PyData))))).bind fun d => .ok (.rt d))
def g_numbers_in : List PyData → Res PyData := runF 2 F_numbers_in
def F_parts_in : Rho → Res Fl := (fun (ρ : Rho) => (setF 2 ((iteR ((((rget ρ 0).bind fun d => ((.ok (.str "") : Res PyData)).bind fun d' => neD d d').bind toB)) ((compD (fun ρ => (((((rget ρ 0).bind strT).bind fun s => ((.ok (.str " ") : Res PyData)).bind fun d' => splitD s d')).bind itD)) (fun d => .ok [d]) [3] (([("part", 3)] : List (Str × Nat)).map (·.2)) cYes (fun ρ => (((rget ρ 3).bind strT).bind fun s => ((.ok (.str ":") : Res PyData)).bind fun d' => splitD s d')) ρ)) ((((.ok [] : Res (List PyData))).bind fun ds => (.ok (.list ds) : Res PyData))))) ρ).bind (Fl.go (fun (ρ : Rho) => (iteR ((((((((((compD (fun ρ => ((rget ρ 2).bind itD)) (fun d => .ok [d]) [3] (([("part", 3)] : List (Str × Nat)).map (·.2)) cYes (fun ρ => (((((rget ρ 3).bind fun d => .ok [d]).bind lenD)).bind fun d => (rget ρ 1).bind fun d' => eqD d d')) ρ)).bind fun d => ((.ok [] : Res (List PyData))).bind fun ds => .ok (d :: ds))).bind allD)).bind toB)).bind fun b => .ok (!b))) ((fun (ρ : Rho) => .exc "BadText") ρ) ((fun (ρ : Rho) => .ok (.nx ρ)) ρ)).bind (Fl.go (fun (ρ : Rho) => (rget ρ 2).bind fun d => .ok (.rt d))))))
def g_parts_in : List PyData → Res PyData := runF 4 F_parts_in
def F_read : Rho → Res Fl := (fun (ρ : Rho) => (iteR (((((((rget ρ 0).bind fun d => .ok (.bool (isStr d)))).bind toB)).bind fun b => .ok (!b))) ((fun (ρ : Rho) => .exc "BadText") ρ) ((fun (ρ : Rho) => .ok (.nx ρ)) ρ)).bind (Fl.go (fun (ρ : Rho) => (setF 1 ((((rget ρ 0).bind strT).bind fun s => ((.ok (.str "|") : Res PyData)).bind fun d' => splitD s d')) ρ).bind (Fl.go (fun (ρ : Rho) => (iteR (((((((rget ρ 1).bind fun d => .ok [d]).bind lenD)).bind fun d => ((.ok (.int 3) : Res PyData)).bind fun d' => neD d d').bind toB)) ((fun (ρ : Rho) => .exc "BadText") ρ) ((fun (ρ : Rho) => .ok (.nx ρ)) ρ)).bind (Fl.go (fun (ρ : Rho) => (setF 2 (compX (fun ρ => ((((((((rget ρ 1).bind fun d => ((.ok (.int 1) : Res PyData)).bind fun d' => idxD d d')).bind fun d => ((((.ok (.int 3) : Res PyData)).bind fun d => ((.ok [] : Res (List PyData))).bind fun ds => .ok (d :: ds))).bind fun ds => .ok (d :: ds))).bind g_parts_in)).bind itD)) (gL (gC (fun d => .ok [d]) (gC (fun d => .ok [d]) (gC (fun d => .ok [d]) gN)))) ([5] ++ ([6] ++ ([7] ++ []))) (([("one", 5), ("two", 6), ("own", 7)] : List (Str × Nat)).map (·.2)) cYes (fun ρ => ((((((((rget ρ 5).bind fun d => ((.ok [] : Res (List PyData))).bind fun ds => .ok (d :: ds))).bind g_number_in)).bind fun d => (((((((rget ρ 6).bind fun d => ((.ok [] : Res (List PyData))).bind fun ds => .ok (d :: ds))).bind g_number_in)).bind fun d => (((((((rget ρ 7).bind fun d => ((.ok [] : Res (List PyData))).bind fun ds => .ok (d :: ds))).bind g_numbers_in)).bind fun d => ((.ok [] : Res (List PyData))).bind fun ds => .ok (d :: ds))).bind fun ds => .ok (d :: ds))).bind fun ds => .ok (d :: ds))).bind fun ds => (.ok (.tuple ds) : Res PyData))) ρ) ρ).bind (Fl.go (fun (ρ : Rho) => (setF 3 (compX (fun ρ => ((((((((rget ρ 1).bind fun d => ((.ok (.int 2) : Res PyData)).bind fun d' => idxD d d')).bind fun d => ((((.ok (.int 2) : Res PyData)).bind fun d => ((.ok [] : Res (List PyData))).bind fun ds => .ok (d :: ds))).bind fun ds => .ok (d :: ds))).bind g_parts_in)).bind itD)) (gL (gC (fun d => .ok [d]) (gC (fun d => .ok [d]) gN))) ([5] ++ ([6] ++ [])) (([("one", 5), ("two", 6)] : List (Str × Nat)).map (·.2)) cYes (fun ρ => ((((((((rget ρ 5).bind fun d => ((.ok [] : Res (List PyData))).bind fun ds => .ok (d :: ds))).bind g_number_in)).bind fun d => (((((((rget ρ 6).bind fun d => ((.ok [] : Res (List PyData))).bind fun ds => .ok (d :: ds))).bind g_number_in)).bind fun d => ((.ok [] : Res (List PyData))).bind fun ds => .ok (d :: ds))).bind fun ds => .ok (d :: ds))).bind fun ds => (.ok (.tuple ds) : Res PyData))) ρ) ρ).bind (Fl.go (fun (ρ : Rho) => (setF 4 (((((((((((rget ρ 1).bind fun d => ((.ok (.int 0) : Res PyData)).bind fun d' => idxD d d')).bind fun d => ((.ok [] : Res (List PyData))).bind fun ds => .ok (d :: ds))).bind g_numbers_in)).bind fun d => (((((((rget ρ 2).bind fun d => ((.ok [] : Res (List PyData))).bind fun ds => .ok (d :: ds))).bind tupleD)).bind fun d => (((((((rget ρ 3).bind fun d => ((.ok [] : Res (List PyData))).bind fun ds => .ok (d :: ds))).bind tupleD)).bind fun d => ((.ok [] : Res (List PyData))).bind fun ds => .ok (d :: ds))).bind fun ds => .ok (d :: ds))).bind fun ds => .ok (d :: ds))).bind fun ds => (.ok (.tuple ds) : Res PyData))) ρ).bind (Fl.go (fun (ρ : Rho) => (iteR ((orT (((((((((rget ρ 4).bind fun d => ((.ok [] : Res (List PyData))).bind fun ds => .ok (d :: ds))).bind g_is_belt)).bind toB)).bind fun b => .ok (!b))) ((((((((rget ρ 4).bind fun d => ((.ok [] : Res (List PyData))).bind fun ds => .ok (d :: ds))).bind g_belt_text)).bind fun d => (rget ρ 0).bind fun d' => neD d d').bind toB)))) ((fun (ρ : Rho) => .exc "BadText") ρ) ((fun (ρ : Rho) => .ok (.nx ρ)) ρ)).bind (Fl.go (fun (ρ : Rho) => (rget ρ 4).bind fun d => .ok (.rt d))))))))))))))))
def g_read : List PyData → Res PyData := runF 8 F_read
def F_law_word (a : Addr) (cx : Str) : Rho → Res Fl := (fun (ρ : Rho) => (setF 1 (((((rfR 0 a (.ok (.bool (cx == "BadBelt" || ("BadBelt" : Str) == "BeltError")) : Res PyData) ρ).bind fun d => (((rfR 0 a (.ok (.bool (cx == "BadPlan" || ("BadPlan" : Str) == "BeltError")) : Res PyData) ρ).bind fun d => (((rfR 0 a (.ok (.bool (cx == "BadBottle" || ("BadBottle" : Str) == "BeltError")) : Res PyData) ρ).bind fun d => (((rfR 0 a (.ok (.bool (cx == "BadNumber" || ("BadNumber" : Str) == "BeltError")) : Res PyData) ρ).bind fun d => ((.ok [] : Res (List PyData))).bind fun ds => .ok (d :: ds))).bind fun ds => .ok (d :: ds))).bind fun ds => .ok (d :: ds))).bind fun ds => .ok (d :: ds))).bind fun ds => (.ok (.list ds) : Res PyData))) ρ).bind (Fl.go (fun (ρ : Rho) => (setF 1 (((rget ρ 1).bind fun d => (((((rfR 0 a (.ok (.bool (cx == "BadPaper" || ("BadPaper" : Str) == "BeltError")) : Res PyData) ρ).bind fun d => (((rfR 0 a (.ok (.bool (cx == "NoPlan" || ("NoPlan" : Str) == "BeltError")) : Res PyData) ρ).bind fun d => (((rfR 0 a (.ok (.bool (cx == "BadText" || ("BadText" : Str) == "BeltError")) : Res PyData) ρ).bind fun d => ((.ok [] : Res (List PyData))).bind fun ds => .ok (d :: ds))).bind fun ds => .ok (d :: ds))).bind fun ds => .ok (d :: ds))).bind fun ds => (.ok (.list ds) : Res PyData))).bind fun d' => addD d d')) ρ).bind (Fl.go (fun (ρ : Rho) => (iteR ((orT (((((((((compD (fun ρ => (rget ρ 1).bind itL) (fun d => .ok [d]) [2] (([("_law_flag", 2)] : List (Str × Nat)).map (·.2)) cYes (fun ρ => ((((rget ρ 2).bind fun d => ((.ok [] : Res (List PyData))).bind fun ds => .ok (d :: ds))).bind intD)) ρ)).bind fun d => ((.ok [] : Res (List PyData))).bind fun ds => .ok (d :: ds))).bind sumD)).bind fun d => ((.ok (.int 1) : Res PyData)).bind fun d' => neD d d').bind toB)) (((((rfR 0 a (.ok (.bool true) : Res PyData) ρ).bind toB)).bind fun b => .ok (!b))))) ((fun (ρ : Rho) => ((.ok (.str "other") : Res PyData)).bind fun d => .ok (.rt d)) ρ) ((fun (ρ : Rho) => .ok (.nx ρ)) ρ)).bind (Fl.go (fun (ρ : Rho) => ((((((((.ok (.str "BadBelt") : Res PyData)).bind fun d => ((((.ok (.str "BadPlan") : Res PyData)).bind fun d => ((((.ok (.str "BadBottle") : Res PyData)).bind fun d => ((((.ok (.str "BadNumber") : Res PyData)).bind fun d => ((((.ok (.str "BadPaper") : Res PyData)).bind fun d => ((((.ok (.str "NoPlan") : Res PyData)).bind fun d => ((((.ok (.str "BadText") : Res PyData)).bind fun d => ((.ok [] : Res (List PyData))).bind fun ds => .ok (d :: ds))).bind fun ds => .ok (d :: ds))).bind fun ds => .ok (d :: ds))).bind fun ds => .ok (d :: ds))).bind fun ds => .ok (d :: ds))).bind fun ds => .ok (d :: ds))).bind fun ds => .ok (d :: ds))).bind fun ds => (.ok (.list ds) : Res PyData))).bind fun d => ((((rget ρ 1).bind itL).bind fun ds => ((.ok (.bool true) : Res PyData)).bind fun d' => indexD ds d')).bind fun d' => idxD d d')).bind fun d => .ok (.rt d))))))))
theorem word_sq : (("BadBelt" : Str) == ("BadBelt" : Str)) = true ∧ (("BadBelt" : Str) == ("BadPlan" : Str)) = false ∧ (("BadBelt" : Str) == ("BadBottle" : Str)) = false ∧ (("BadBelt" : Str) == ("BadNumber" : Str)) = false ∧ (("BadBelt" : Str) == ("BadPaper" : Str)) = false ∧ (("BadBelt" : Str) == ("NoPlan" : Str)) = false ∧ (("BadBelt" : Str) == ("BadText" : Str)) = false ∧ (("BadPlan" : Str) == ("BadBelt" : Str)) = false ∧ (("BadPlan" : Str) == ("BadPlan" : Str)) = true ∧ (("BadPlan" : Str) == ("BadBottle" : Str)) = false ∧ (("BadPlan" : Str) == ("BadNumber" : Str)) = false ∧ (("BadPlan" : Str) == ("BadPaper" : Str)) = false ∧ (("BadPlan" : Str) == ("NoPlan" : Str)) = false ∧ (("BadPlan" : Str) == ("BadText" : Str)) = false ∧ (("BadBottle" : Str) == ("BadBelt" : Str)) = false ∧ (("BadBottle" : Str) == ("BadPlan" : Str)) = false ∧ (("BadBottle" : Str) == ("BadBottle" : Str)) = true ∧ (("BadBottle" : Str) == ("BadNumber" : Str)) = false ∧ (("BadBottle" : Str) == ("BadPaper" : Str)) = false ∧ (("BadBottle" : Str) == ("NoPlan" : Str)) = false ∧ (("BadBottle" : Str) == ("BadText" : Str)) = false ∧ (("BadNumber" : Str) == ("BadBelt" : Str)) = false ∧ (("BadNumber" : Str) == ("BadPlan" : Str)) = false ∧ (("BadNumber" : Str) == ("BadBottle" : Str)) = false ∧ (("BadNumber" : Str) == ("BadNumber" : Str)) = true ∧ (("BadNumber" : Str) == ("BadPaper" : Str)) = false ∧ (("BadNumber" : Str) == ("NoPlan" : Str)) = false ∧ (("BadNumber" : Str) == ("BadText" : Str)) = false ∧ (("BadPaper" : Str) == ("BadBelt" : Str)) = false ∧ (("BadPaper" : Str) == ("BadPlan" : Str)) = false ∧ (("BadPaper" : Str) == ("BadBottle" : Str)) = false ∧ (("BadPaper" : Str) == ("BadNumber" : Str)) = false ∧ (("BadPaper" : Str) == ("BadPaper" : Str)) = true ∧ (("BadPaper" : Str) == ("NoPlan" : Str)) = false ∧ (("BadPaper" : Str) == ("BadText" : Str)) = false ∧ (("NoPlan" : Str) == ("BadBelt" : Str)) = false ∧ (("NoPlan" : Str) == ("BadPlan" : Str)) = false ∧ (("NoPlan" : Str) == ("BadBottle" : Str)) = false ∧ (("NoPlan" : Str) == ("BadNumber" : Str)) = false ∧ (("NoPlan" : Str) == ("BadPaper" : Str)) = false ∧ (("NoPlan" : Str) == ("NoPlan" : Str)) = true ∧ (("NoPlan" : Str) == ("BadText" : Str)) = false ∧ (("BadText" : Str) == ("BadBelt" : Str)) = false ∧ (("BadText" : Str) == ("BadPlan" : Str)) = false ∧ (("BadText" : Str) == ("BadBottle" : Str)) = false ∧ (("BadText" : Str) == ("BadNumber" : Str)) = false ∧ (("BadText" : Str) == ("BadPaper" : Str)) = false ∧ (("BadText" : Str) == ("NoPlan" : Str)) = false ∧ (("BadText" : Str) == ("BadText" : Str)) = true ∧ (("BadBelt" : Str) == ("BeltError" : Str)) = false ∧ (("BadPlan" : Str) == ("BeltError" : Str)) = false ∧ (("BadBottle" : Str) == ("BeltError" : Str)) = false ∧ (("BadNumber" : Str) == ("BeltError" : Str)) = false ∧ (("BadPaper" : Str) == ("BeltError" : Str)) = false ∧ (("NoPlan" : Str) == ("BeltError" : Str)) = false ∧ (("BadText" : Str) == ("BeltError" : Str)) = false := ⟨by decide +kernel, by decide +kernel, by decide +kernel, by decide +kernel, by decide +kernel, by decide +kernel, by decide +kernel, by decide +kernel, by decide +kernel, by decide +kernel, by decide +kernel, by decide +kernel, by decide +kernel, by decide +kernel, by decide +kernel, by decide +kernel, by decide +kernel, by decide +kernel, by decide +kernel, by decide +kernel, by decide +kernel, by decide +kernel, by decide +kernel, by decide +kernel, by decide +kernel, by decide +kernel, by decide +kernel, by decide +kernel, by decide +kernel, by decide +kernel, by decide +kernel, by decide +kernel, by decide +kernel, by decide +kernel, by decide +kernel, by decide +kernel, by decide +kernel, by decide +kernel, by decide +kernel, by decide +kernel, by decide +kernel, by decide +kernel, by decide +kernel, by decide +kernel, by decide +kernel, by decide +kernel, by decide +kernel, by decide +kernel, by decide +kernel, by decide +kernel, by decide +kernel, by decide +kernel, by decide +kernel, by decide +kernel, by decide +kernel, by decide +kernel⟩
theorem word_val : ∀ a, ∀ cx ∈ (["BadBelt", "BadPlan", "BadBottle", "BadNumber", "BadPaper", "NoPlan", "BadText"] : List Str), F_law_word a cx (wordRho 3 a) = .ok (.rt (.str cx)) := by
  intro a cx h
  simp only [List.mem_cons, List.not_mem_nil, or_false] at h
  rcases h with rfl | rfl | rfl | rfl | rfl | rfl | rfl <;> (unfold F_law_word wordRho; simp only [rfR_z, word_sq, px, px2, Res.bind_ok, List.replicate]; rw [addD_ll (by decide)]; simp only [rfR_z, word_sq, px, px2, Res.bind_ok]; rfl)
def F_law_written : Rho → Res Fl := (fun (ρ : Rho) => (((.ok [] : Res (List PyData))).bind fun ds => .ok (.nx (ρ.set 1 (some (.mu ds))))).bind (Fl.go (fun (ρ : Rho) => ((((((rget ρ 0).bind fun d => ((.ok (.int 1) : Res PyData)).bind fun d' => idxD d d')).bind itD)).bind fun ds => forL (gT (gC (fun d => .ok [d]) (gC (fun d => .ok [d]) (gC (fun d => .ok [d]) gN)))) ([2] ++ ([3] ++ ([4] ++ []))) [2, 3, 4] (fun (ρ : Rho) => appF 1 (((((.ok (.str ":") : Res PyData)).bind strT).bind fun s => (((((((((rget ρ 2).bind fun d => ((.ok [] : Res (List PyData))).bind fun ds => .ok (d :: ds))).bind strD)).bind fun d => (((((((rget ρ 3).bind fun d => ((.ok [] : Res (List PyData))).bind fun ds => .ok (d :: ds))).bind strD)).bind fun d => ((((iteR ((((rget ρ 4).bind fun d => ((((.ok [] : Res (List PyData))).bind fun ds => (.ok (.tuple ds) : Res PyData))).bind fun d' => neD d d').bind toB)) (((((.ok (.str ",") : Res PyData)).bind strT).bind fun s => ((compD (fun ρ => ((rget ρ 4).bind itD)) (fun d => .ok [d]) [6] (([("_law_one", 6)] : List (Str × Nat)).map (·.2)) cYes (fun ρ => ((((rget ρ 6).bind fun d => ((.ok [] : Res (List PyData))).bind fun ds => .ok (d :: ds))).bind strD)) ρ)).bind fun d' => joinD s d')) ((.ok (.str "-") : Res PyData)))).bind fun d => ((.ok [] : Res (List PyData))).bind fun ds => .ok (d :: ds))).bind fun ds => .ok (d :: ds))).bind fun ds => .ok (d :: ds))).bind fun ds => (.ok (.list ds) : Res PyData))).bind fun d' => joinD s d')) ρ) ds (wipeD ρ [2, 3, 4])).bind (Fl.go (fun (ρ : Rho) => (fun (ρ : Rho) => (setF 5 (compD (fun ρ => ((((rget ρ 0).bind fun d => ((.ok (.int 2) : Res PyData)).bind fun d' => idxD d d')).bind itD)) (gT (gC (fun d => .ok [d]) (gC (fun d => .ok [d]) gN))) ([2] ++ ([3] ++ [])) (([("_law_place", 2), ("_law_price", 3)] : List (Str × Nat)).map (·.2)) cYes (fun ρ => ((((((((rget ρ 2).bind fun d => ((.ok [] : Res (List PyData))).bind fun ds => .ok (d :: ds))).bind strD)).bind fun d => ((.ok (.str ":") : Res PyData)).bind fun d' => addD d d')).bind fun d => (((((rget ρ 3).bind fun d => ((.ok [] : Res (List PyData))).bind fun ds => .ok (d :: ds))).bind strD)).bind fun d' => addD d d')) ρ) ρ).bind (Fl.go (frzS 1 (fun (ρ : Rho) => (((((.ok (.str "|") : Res PyData)).bind strT).bind fun s => (((((((((.ok (.str ",") : Res PyData)).bind strT).bind fun s => ((compD (fun ρ => ((((rget ρ 0).bind fun d => ((.ok (.int 0) : Res PyData)).bind fun d' => idxD d d')).bind itD)) (fun d => .ok [d]) [2] (([("_law_place", 2)] : List (Str × Nat)).map (·.2)) cYes (fun ρ => ((((rget ρ 2).bind fun d => ((.ok [] : Res (List PyData))).bind fun ds => .ok (d :: ds))).bind strD)) ρ)).bind fun d' => joinD s d')).bind fun d => (((((((.ok (.str " ") : Res PyData)).bind strT).bind fun s => (rget ρ 1).bind fun d' => joinD s d')).bind fun d => (((((((.ok (.str " ") : Res PyData)).bind strT).bind fun s => (rget ρ 5).bind fun d' => joinD s d')).bind fun d => ((.ok [] : Res (List PyData))).bind fun ds => .ok (d :: ds))).bind fun ds => .ok (d :: ds))).bind fun ds => .ok (d :: ds))).bind fun ds => (.ok (.list ds) : Res PyData))).bind fun d' => joinD s d')).bind fun d => .ok (.rt d))))) (wipeD ρ [2, 3, 4]))))))
def g_law_written : List PyData → Res PyData := runF 7 F_law_written
def F_law : Rho → Res Fl := (fun (ρ : Rho) => (((((((((.ok (.int 1) : Res PyData)).bind fun d => ((((((((.ok (.int 3) : Res PyData)).bind fun d => ((((((rget ρ 0).bind fun d => .ok [d]).bind lenD)).bind fun d => ((.ok [] : Res (List PyData))).bind fun ds => .ok (d :: ds))).bind fun ds => .ok (d :: ds))).bind minD)).bind fun d => ((.ok [] : Res (List PyData))).bind fun ds => .ok (d :: ds))).bind fun ds => .ok (d :: ds))).bind maxD)).bind rngL)).bind fun ds => forL (fun d => .ok [d]) [1] [1, 2, 3, 4, 5, 6, 7, 8, 9, 10, 11, 12, 13, 14] (fun (ρ : Rho) => (setF 2 (((((((((rget ρ 0).bind fun d => (((rget ρ 1).bind fun d => ((.ok [] : Res (List PyData))).bind fun ds => .ok (d :: ds))).bind fun ds => .ok (d :: ds))).bind g_law_cell)).bind fun d => (((rget ρ 1).bind fun d => ((.ok [] : Res (List PyData))).bind fun ds => .ok (d :: ds))).bind fun ds => .ok (d :: ds))).bind g_law_drawn)) ρ).bind (Fl.go (fun (ρ : Rho) => (((((.ok (.int 5) : Res PyData)).bind rngL)).bind fun ds => forL (fun d => .ok [d]) [3] [3, 4, 5, 6, 7, 8, 9, 10, 11, 12] (fun (ρ : Rho) => (setF 4 (((((rget ρ 2).bind fun d => ((((((.ok (.int 10) : Res PyData)).bind fun d => (rget ρ 3).bind fun d' => addD d d')).bind fun d => ((.ok [] : Res (List PyData))).bind fun ds => .ok (d :: ds))).bind fun ds => .ok (d :: ds))).bind g_law_drawn)) ρ).bind (Fl.go (fun (ρ : Rho) => (setF 5 (((((rget ρ 4).bind fun d => ((((.ok (.int 8) : Res PyData)).bind fun d => ((.ok [] : Res (List PyData))).bind fun ds => .ok (d :: ds))).bind fun ds => .ok (d :: ds))).bind g_law_belt)) ρ).bind (Fl.go (fun (ρ : Rho) => (setF 6 (((((rget ρ 5).bind fun d => ((.ok [] : Res (List PyData))).bind fun ds => .ok (d :: ds))).bind g_law_written)) ρ).bind (Fl.go (fun (ρ : Rho) => (iteR ((orT ((((((((rget ρ 5).bind fun d => ((.ok [] : Res (List PyData))).bind fun ds => .ok (d :: ds))).bind g_written)).bind fun d => (rget ρ 6).bind fun d' => neD d d').bind toB)) ((((((((rget ρ 6).bind fun d => ((.ok [] : Res (List PyData))).bind fun ds => .ok (d :: ds))).bind g_read)).bind fun d => (rget ρ 5).bind fun d' => neD d d').bind toB)))) ((fun (ρ : Rho) => ((.ok (.bool false) : Res PyData)).bind fun d => .ok (.rt d)) ρ) ((fun (ρ : Rho) => .ok (.nx ρ)) ρ)).bind (Fl.go (fun (ρ : Rho) => ((((.ok (.int 6) : Res PyData)).bind rngL)).bind fun ds => forL (fun d => .ok [d]) [7] [7, 8, 9, 10, 11, 12] (fun (ρ : Rho) => (setF 8 (((((rget ρ 4).bind fun d => (((rget ρ 7).bind fun d => ((.ok [] : Res (List PyData))).bind fun ds => .ok (d :: ds))).bind fun ds => .ok (d :: ds))).bind g_law_drawn)) ρ).bind (Fl.go (fun (ρ : Rho) => (setF 9 (((((rget ρ 8).bind fun d => ((.ok (.int 16) : Res PyData)).bind fun d' => fdivD d d')).bind fun d => ((((((rget ρ 6).bind fun d => .ok [d]).bind lenD)).bind fun d => ((.ok (.int 1) : Res PyData)).bind fun d' => addD d d')).bind fun d' => modD d d')) ρ).bind (Fl.go (fun (ρ : Rho) => (setF 10 ((((((((.ok (.str "0") : Res PyData)).bind fun d => ((((.ok (.str "1") : Res PyData)).bind fun d => ((((.ok (.str ",") : Res PyData)).bind fun d => ((((.ok (.str ":") : Res PyData)).bind fun d => ((((.ok (.str "|") : Res PyData)).bind fun d => ((((.ok (.str " ") : Res PyData)).bind fun d => ((((.ok (.str "-") : Res PyData)).bind fun d => ((((.ok (.str "") : Res PyData)).bind fun d => ((((.ok (.str "x") : Res PyData)).bind fun d => ((.ok [] : Res (List PyData))).bind fun ds => .ok (d :: ds))).bind fun ds => .ok (d :: ds))).bind fun ds => .ok (d :: ds))).bind fun ds => .ok (d :: ds))).bind fun ds => .ok (d :: ds))).bind fun ds => .ok (d :: ds))).bind fun ds => .ok (d :: ds))).bind fun ds => .ok (d :: ds))).bind fun ds => .ok (d :: ds))).bind fun ds => (.ok (.list ds) : Res PyData))).bind fun d => (((((rget ρ 8).bind fun d => ((.ok (.int 4096) : Res PyData)).bind fun d' => fdivD d d')).bind fun d => ((.ok (.int 9) : Res PyData)).bind fun d' => modD d d')).bind fun d' => idxD d d')) ρ).bind (Fl.go (fun (ρ : Rho) => (setF 11 (((((((rget ρ 6).bind fun d => ((.ok none : Res (Option Int))).bind fun l => (((rget ρ 9).bind fun d => (toI d).bind fun i => .ok (some i))).bind fun h => sliceS l h d)).bind fun d => (rget ρ 10).bind fun d' => addD d d')).bind fun d => (((rget ρ 6).bind fun d => (((((rget ρ 9).bind fun d => (((((rget ρ 8).bind fun d => ((((.ok (.int 2) : Res PyData)).bind fun d => ((.ok (.int 20) : Res PyData)).bind fun d' => powD d d')).bind fun d' => fdivD d d')).bind fun d => ((.ok (.int 2) : Res PyData)).bind fun d' => modD d d')).bind fun d' => addD d d')).bind fun d => (toI d).bind fun i => .ok (some i))).bind fun l => ((.ok none : Res (Option Int))).bind fun h => sliceS l h d)).bind fun d' => addD d d')) ρ).bind (Fl.go (fun (ρ : Rho) => (setF 12 ((toldQ ["BadBelt", "BadPlan", "BadBottle", "BadNumber", "BadPaper", "NoPlan", "BadText"] (((((rget ρ 11).bind fun d => ((.ok [] : Res (List PyData))).bind fun ds => .ok (d :: ds))).bind g_read)))) ρ).bind (Fl.go (fun (ρ : Rho) => iteR ((((rget ρ 12).bind fun d => ((.ok (.str "BadText") : Res PyData)).bind fun d' => eqD d d').bind toB)) ((fun (ρ : Rho) => iteR ((((rget ρ 11).bind fun d => (rget ρ 6).bind fun d' => eqD d d').bind toB)) ((fun (ρ : Rho) => ((.ok (.bool false) : Res PyData)).bind fun d => .ok (.rt d)) ρ) ((fun (ρ : Rho) => .ok (.nx ρ)) ρ)) ρ) ((fun (ρ : Rho) => iteR ((orT (((((((rget ρ 12).bind fun d => ((.ok [] : Res (List PyData))).bind fun ds => .ok (d :: ds))).bind g_need_belt)).bind fun d => .ok (!isNone d))) ((((((((rget ρ 12).bind fun d => ((.ok [] : Res (List PyData))).bind fun ds => .ok (d :: ds))).bind g_law_written)).bind fun d => (rget ρ 11).bind fun d' => neD d d').bind toB)))) ((fun (ρ : Rho) => ((.ok (.bool false) : Res PyData)).bind fun d => .ok (.rt d)) ρ) ((fun (ρ : Rho) => .ok (.nx ρ)) ρ)) ρ)))))))))))) ds (wipeD ρ [7, 8, 9, 10, 11, 12])))))))))) ds (wipeD ρ [3, 4, 5, 6, 7, 8, 9, 10, 11, 12])).bind (Fl.go (fun (ρ : Rho) => (fun (ρ : Rho) => (setF 13 ((((((.ok (.str "") : Res PyData)).bind fun d => ((((.ok (.str "|") : Res PyData)).bind fun d => ((((.ok (.str "||") : Res PyData)).bind fun d => ((((.ok (.str "-||") : Res PyData)).bind fun d => ((((.ok (.str "5|1:1|") : Res PyData)).bind fun d => ((((.ok (.str "5|1:1:|") : Res PyData)).bind fun d => ((((.ok (.str "5|1:1:0|1") : Res PyData)).bind fun d => ((((.ok (.str "5||1:1:1") : Res PyData)).bind fun d => ((((.ok (.str "05||") : Res PyData)).bind fun d => ((((.ok (.str "5|| 1:1") : Res PyData)).bind fun d => ((((.ok .none : Res PyData)).bind fun d => ((.ok [] : Res (List PyData))).bind fun ds => .ok (d :: ds))).bind fun ds => .ok (d :: ds))).bind fun ds => .ok (d :: ds))).bind fun ds => .ok (d :: ds))).bind fun ds => .ok (d :: ds))).bind fun ds => .ok (d :: ds))).bind fun ds => .ok (d :: ds))).bind fun ds => .ok (d :: ds))).bind fun ds => .ok (d :: ds))).bind fun ds => .ok (d :: ds))).bind fun ds => .ok (d :: ds))).bind fun ds => (.ok (.list ds) : Res PyData))) ρ).bind (Fl.go (fun (ρ : Rho) => ((((((rget ρ 13).bind fun d => ((((((.ok (.str "100||") : Res PyData)).bind fun d => ((((.ok (.str "5|1:0:-|") : Res PyData)).bind fun d => ((((.ok (.str "5|1:1:1|") : Res PyData)).bind fun d => ((((.ok (.str "5|1:1:0,0|") : Res PyData)).bind fun d => ((((.ok (.str "5|1:1:00|") : Res PyData)).bind fun d => ((((.ok (.int 5) : Res PyData)).bind fun d => ((((((((.ok (.str "5||") : Res PyData)).bind fun d => ((.ok [] : Res (List PyData))).bind fun ds => .ok (d :: ds))).bind fun ds => (.ok (.list ds) : Res PyData))).bind fun d => ((((.ok (.str "5||1:21") : Res PyData)).bind fun d => ((.ok [] : Res (List PyData))).bind fun ds => .ok (d :: ds))).bind fun ds => .ok (d :: ds))).bind fun ds => .ok (d :: ds))).bind fun ds => .ok (d :: ds))).bind fun ds => .ok (d :: ds))).bind fun ds => .ok (d :: ds))).bind fun ds => .ok (d :: ds))).bind fun ds => .ok (d :: ds))).bind fun ds => (.ok (.list ds) : Res PyData))).bind fun d' => addD d d')).bind itD)).bind fun ds => forL (fun d => .ok [d]) [14] [14] (fun (ρ : Rho) => iteR (((((toldQ ["BadBelt", "BadPlan", "BadBottle", "BadNumber", "BadPaper", "NoPlan", "BadText"] (((((rget ρ 14).bind fun d => ((.ok [] : Res (List PyData))).bind fun ds => .ok (d :: ds))).bind g_read)))).bind fun d => ((.ok (.str "BadText") : Res PyData)).bind fun d' => neD d d').bind toB)) ((fun (ρ : Rho) => ((.ok (.bool false) : Res PyData)).bind fun d => .ok (.rt d)) ρ) ((fun (ρ : Rho) => .ok (.nx ρ)) ρ)) ds (wipeD ρ [14])).bind (Fl.go (fun (ρ : Rho) => (fun (ρ : Rho) => iteR ((orT (((((((((.ok (.str "5||") : Res PyData)).bind fun d => ((.ok [] : Res (List PyData))).bind fun ds => .ok (d :: ds))).bind g_read)).bind fun d => ((((((((((.ok (.int 5) : Res PyData)).bind fun d => ((.ok [] : Res (List PyData))).bind fun ds => .ok (d :: ds))).bind fun ds => (.ok (.tuple ds) : Res PyData))).bind fun d => ((((((.ok [] : Res (List PyData))).bind fun ds => (.ok (.tuple ds) : Res PyData))).bind fun d => ((((((.ok [] : Res (List PyData))).bind fun ds => (.ok (.tuple ds) : Res PyData))).bind fun d => ((.ok [] : Res (List PyData))).bind fun ds => .ok (d :: ds))).bind fun ds => .ok (d :: ds))).bind fun ds => .ok (d :: ds))).bind fun ds => (.ok (.tuple ds) : Res PyData))).bind fun d' => neD d d').bind toB)) (((((toldQ ["BadBelt", "BadPlan", "BadBottle", "BadNumber", "BadPaper", "NoPlan", "BadText"] ((((((((((((.ok [] : Res (List PyData))).bind fun ds => (.ok (.tuple ds) : Res PyData))).bind fun d => ((((((.ok [] : Res (List PyData))).bind fun ds => (.ok (.tuple ds) : Res PyData))).bind fun d => ((((((.ok [] : Res (List PyData))).bind fun ds => (.ok (.tuple ds) : Res PyData))).bind fun d => ((.ok [] : Res (List PyData))).bind fun ds => .ok (d :: ds))).bind fun ds => .ok (d :: ds))).bind fun ds => .ok (d :: ds))).bind fun ds => (.ok (.tuple ds) : Res PyData))).bind fun d => ((.ok [] : Res (List PyData))).bind fun ds => .ok (d :: ds))).bind g_written)))).bind fun d => ((.ok (.str "BadBelt") : Res PyData)).bind fun d' => neD d d').bind toB)))) ((fun (ρ : Rho) => ((.ok (.bool false) : Res PyData)).bind fun d => .ok (.rt d)) ρ) ((fun (ρ : Rho) => .ok (.nx ρ)) ρ)) (wipeD ρ [14])))))) (wipeD ρ [3, 4, 5, 6, 7, 8, 9, 10, 11, 12])))))) ds (wipeD ρ [1, 2, 3, 4, 5, 6, 7, 8, 9, 10, 11, 12, 13, 14])).bind (Fl.go (fun (ρ : Rho) => (fun (ρ : Rho) => ((.ok (.bool true) : Res PyData)).bind fun d => .ok (.rt d)) (wipeD ρ [1, 2, 3, 4, 5, 6, 7, 8, 9, 10, 11, 12, 13, 14]))))
def g_law : List PyData → Res PyData := runF 15 F_law
end
end PX

namespace PX
open PySem PySem.Spec PyProof.Rows L2 LamX HotX L2H
section
variable {P : Program} {w : World} {K : PySem.W.Frag} {mg : Str → Option Value} {base : Heap} {T : List (Addr × Str)}
abbrev mkD : List He.DefD := [Hd.d_law]
abbrev N_is_count : List Str := ["thing", "low", "high"]
theorem sc_is_count : FnScope N_is_count ["thing", "low", "high"] (defScope Hd.s_is_count) := ⟨rfl, rfl, rfl, by decide +kernel, rfl, by decide +kernel, by decide +kernel⟩
theorem ok_is_count (c : Fc Hd.fa Hd.fn K mg) : OkF P w K mg base T "is_count" 1 ["thing", "low", "high"] g_is_count := by
  refine okF_mk (d := Hd.d_is_count) (N := N_is_count) c 0 0 sc_is_count (fun _ _ _ _ _ _ us hl => match us, hl with | [_, _, _], _ => rfl) ?_
  intro cdv A outer s H E hcd B
  exact (vs_one (vs_ret (v_and (v_isi isT_int (by rfl) (c.free 33) (by rfl) (c.free 32) boot_int (v_var 0)) (v_and (v_not (v_isi isT_bool (by rfl) (c.free 33) (by rfl) (c.free 31) boot_bool (v_var 0))) (v_one (v_chain op_le op_le n_cmpI n_cmpI (v_var 1) (v_var 0) (v_var 2)))))))
abbrev N_is_rising : List Str := ["thing", "many", "one", "other"]
theorem sc_is_rising : FnScope N_is_rising ["thing", "many"] (defScope Hd.s_is_rising) := ⟨rfl, rfl, rfl, by decide +kernel, rfl, by decide +kernel, by decide +kernel⟩
theorem ok_is_rising (c : Fc Hd.fa Hd.fn K mg) (h_is_count : OkF P w K mg base T "is_count" 1 ["thing", "low", "high"] g_is_count) : OkF P w K mg base T "is_rising" 2 ["thing", "many"] g_is_rising := by
  refine okF_mk (d := Hd.d_is_rising) (N := N_is_rising) c 1 1 sc_is_rising (fun _ _ _ _ _ _ us hl => match us, hl with | [_, _], _ => rfl) ?_
  intro cdv A outer s H E hcd B
  exact (vs_cons (vs_if (vt_w (vw_or (vt_not (vt_val (v_isi isT_tup (by rfl) (c.free 33) (by rfl) (c.free 40) boot_tuple (v_var 0)))) (vw_or1 (vt_not (vt_val (v_callB (cr_all rfl) n_all (by rfl) (c.free 30) (by decide +kernel) (va_cons (v_lc (own := [("one", 2)]) rfl sc_is_rising.nd (vi_seq (v_var 0)) (blkOk_by (own := [("one", 2)]) (N := N_is_rising) (sc := defScope Hd.s_is_rising) (by decide +kernel)) (by decide) (fun _ _ _ _ _ => (vg_name 2 sc_is_rising.nd)) (fun _ _ _ _ _ => vts_nil) (fun _ _ _ _ _ => (v_callF h_is_count B.room (by decide) passN (by rfl) (va_cons (v_var 2) (va_cons v_int (va_cons (v_sub (v_var 1) v_int) va_nil)))))) va_nil))))))) (vs_one (vs_ret v_bl)) vs_nil) (vs_one (vs_ret (v_callB (cr_all rfl) n_all (by rfl) (c.free 30) (by decide +kernel) (va_cons (v_lc (own := [("one", 2), ("other", 3)]) rfl sc_is_rising.nd (vi_zip (by rfl) (c.free 41) (v_slice (v_var 0) vo_none (vo_some (v_neg v_int))) (v_slice (v_var 0) (vo_some v_int) vo_none)) (blkOk_by (own := [("one", 2), ("other", 3)]) (N := N_is_rising) (sc := defScope Hd.s_is_rising) (by decide +kernel)) (by decide) (fun _ _ _ _ _ => (vg_tup rfl (vgs_cons (vg_name 2 sc_is_rising.nd) (vgs_cons (vg_name 3 sc_is_rising.nd) vgs_nil)))) (fun _ _ _ _ _ => vts_nil) (fun _ _ _ _ _ => (v_cmp op_lt (Serves0.s n_cmpI) (v_var 2) (v_var 3)))) va_nil)))))
abbrev N_is_spot : List Str := ["thing", "faults"]
theorem sc_is_spot : FnScope N_is_spot ["thing", "faults"] (defScope Hd.s_is_spot) := ⟨rfl, rfl, rfl, by decide +kernel, rfl, by decide +kernel, by decide +kernel⟩
theorem ok_is_spot (c : Fc Hd.fa Hd.fn K mg) (h_is_count : OkF P w K mg base T "is_count" 1 ["thing", "low", "high"] g_is_count) (h_is_rising : OkF P w K mg base T "is_rising" 2 ["thing", "many"] g_is_rising) : OkF P w K mg base T "is_spot" 3 ["thing", "faults"] g_is_spot := by
  refine okF_mk (d := Hd.d_is_spot) (N := N_is_spot) c 2 2 sc_is_spot (fun _ _ _ _ _ _ us hl => match us, hl with | [_, _], _ => rfl) ?_
  intro cdv A outer s H E hcd B
  exact (vs_cons (vs_if (vt_w (vw_or (vt_not (vt_val (v_isi isT_tup (by rfl) (c.free 33) (by rfl) (c.free 40) boot_tuple (v_var 0)))) (vw_or (vt_cmp (s_ne (hu := B.hu)) n_ne (v_len (by rfl) (c.free 34) (v_var 0)) v_int) (vw_or1 (vt_not (vt_val (v_callF h_is_count B.room (by decide) B.hx (by rfl) (va_cons (v_ix (v_var 0) v_int) (va_cons v_int (va_cons (v_gint (by rfl) (c.int 42)) va_nil)))))))))) (vs_one (vs_ret v_bl)) vs_nil) (vs_one (vs_ret (v_and (v_callF h_is_count B.room (by decide) B.hx (by rfl) (va_cons (v_ix (v_var 0) v_int) (va_cons v_int (va_cons (v_gint (by rfl) (c.int 43)) va_nil)))) (v_one (v_callF h_is_rising B.room (by decide) B.hx (by rfl) (va_cons (v_ix (v_var 0) v_int) (va_cons (v_var 1) va_nil))))))))
abbrev N_is_kicker : List Str := ["thing"]
theorem sc_is_kicker : FnScope N_is_kicker ["thing"] (defScope Hd.s_is_kicker) := ⟨rfl, rfl, rfl, by decide +kernel, rfl, by decide +kernel, by decide +kernel⟩
theorem ok_is_kicker (c : Fc Hd.fa Hd.fn K mg) (h_is_count : OkF P w K mg base T "is_count" 1 ["thing", "low", "high"] g_is_count) : OkF P w K mg base T "is_kicker" 2 ["thing"] g_is_kicker := by
  refine okF_mk (d := Hd.d_is_kicker) (N := N_is_kicker) c 3 3 sc_is_kicker (fun _ _ _ _ _ _ us hl => match us, hl with | [_], _ => rfl) ?_
  intro cdv A outer s H E hcd B
  exact (vs_cons (vs_if (vt_w (vw_or (vt_not (vt_val (v_isi isT_tup (by rfl) (c.free 33) (by rfl) (c.free 40) boot_tuple (v_var 0)))) (vw_or1 (vt_cmp (s_ne (hu := B.hu)) n_ne (v_len (by rfl) (c.free 34) (v_var 0)) v_int)))) (vs_one (vs_ret v_bl)) vs_nil) (vs_one (vs_ret (v_and (v_callF h_is_count B.room (by decide) B.hx (by rfl) (va_cons (v_ix (v_var 0) v_int) (va_cons v_int (va_cons (v_gint (by rfl) (c.int 42)) va_nil)))) (v_one (v_callF h_is_count B.room (by decide) B.hx (by rfl) (va_cons (v_ix (v_var 0) v_int) (va_cons v_int (va_cons (v_gint (by rfl) (c.int 43)) va_nil)))))))))
abbrev N_is_belt : List Str := ["thing", "faults", "spots", "kickers", "place", "spot", "one", "part"]
theorem sc_is_belt : FnScope N_is_belt ["thing"] (defScope Hd.s_is_belt) := ⟨rfl, rfl, rfl, by decide +kernel, rfl, by decide +kernel, by decide +kernel⟩
theorem ok_is_belt (c : Fc Hd.fa Hd.fn K mg) (h_is_count : OkF P w K mg base T "is_count" 1 ["thing", "low", "high"] g_is_count) (h_is_spot : OkF P w K mg base T "is_spot" 3 ["thing", "faults"] g_is_spot) (h_is_kicker : OkF P w K mg base T "is_kicker" 2 ["thing"] g_is_kicker) : OkF P w K mg base T "is_belt" 4 ["thing"] g_is_belt := by
  refine okF_mk (d := Hd.d_is_belt) (N := N_is_belt) c 4 4 sc_is_belt (fun _ _ _ _ _ _ us hl => match us, hl with | [_], _ => rfl) ?_
  intro cdv A outer s H E hcd B
  exact (vs_cons (vs_if (vt_w (vw_or (vt_not (vt_val (v_isi isT_tup (by rfl) (c.free 33) (by rfl) (c.free 40) boot_tuple (v_var 0)))) (vw_or (vt_cmp (s_ne (hu := B.hu)) n_ne (v_len (by rfl) (c.free 34) (v_var 0)) v_int) (vw_or1 (vt_not (vt_val (v_callB (cr_all rfl) n_all (by rfl) (c.free 30) (by decide +kernel) (va_cons (v_lc (own := [("part", 7)]) rfl sc_is_belt.nd (vi_seq (v_var 0)) (blkOk_by (own := [("part", 7)]) (N := N_is_belt) (sc := defScope Hd.s_is_belt) (by decide +kernel)) (by decide) (fun _ _ _ _ _ => (vg_name 7 sc_is_belt.nd)) (fun _ _ _ _ _ => vts_nil) (fun _ _ _ _ _ => (v_isi isT_tup (by rfl) (c.free 33) (by rfl) (c.free 40) boot_tuple (v_var 7)))) va_nil)))))))) (vs_one (vs_ret v_bl)) vs_nil) (vs_cons (vs_asg (v_var 0) (vg_tup rfl (vgs_cons (vg_name 1 sc_is_belt.nd) (vgs_cons (vg_name 2 sc_is_belt.nd) (vgs_cons (vg_name 3 sc_is_belt.nd) vgs_nil))))) (vs_cons (vs_if (vt_w (vw_or (vt_not (vt_chain op_le op_le n_cmpI n_cmpI v_int (v_len (by rfl) (c.free 34) (v_var 1)) (v_gint (by rfl) (c.int 44)))) (vw_or (vt_cmp op_gt n_cmpI (v_len (by rfl) (c.free 34) (v_var 2)) (v_gint (by rfl) (c.int 45))) (vw_or1 (vt_cmp op_gt n_cmpI (v_len (by rfl) (c.free 34) (v_var 3)) (v_gint (by rfl) (c.int 46))))))) (vs_one (vs_ret v_bl)) vs_nil) (vs_cons (vs_if (vt_not (vt_val (v_callB (cr_all rfl) n_all (by rfl) (c.free 30) (by decide +kernel) (va_cons (v_lc (own := [("place", 4)]) rfl sc_is_belt.nd (vi_seq (v_var 1)) (blkOk_by (own := [("place", 4)]) (N := N_is_belt) (sc := defScope Hd.s_is_belt) (by decide +kernel)) (by decide) (fun _ _ _ _ _ => (vg_name 4 sc_is_belt.nd)) (fun _ _ _ _ _ => vts_nil) (fun _ _ _ _ _ => (v_callF h_is_count B.room (by decide) passN (by rfl) (va_cons (v_var 4) (va_cons v_int (va_cons (v_gint (by rfl) (c.int 42)) va_nil)))))) va_nil)))) (vs_one (vs_ret v_bl)) vs_nil) (vs_one (vs_ret (v_and (v_callB (cr_all rfl) n_all (by rfl) (c.free 30) (by decide +kernel) (va_cons (v_lc (own := [("spot", 5)]) rfl sc_is_belt.nd (vi_seq (v_var 2)) (blkOk_by (own := [("spot", 5)]) (N := N_is_belt) (sc := defScope Hd.s_is_belt) (by decide +kernel)) (by decide) (fun _ _ _ _ _ => (vg_name 5 sc_is_belt.nd)) (fun _ _ _ _ _ => vts_nil) (fun _ _ _ _ _ => (v_callF h_is_spot B.room (by decide) passN (by rfl) (va_cons (v_var 5) (va_cons (v_len (by rfl) (c.free 34) (v_var 1)) va_nil))))) va_nil)) (v_one (v_callB (cr_all rfl) n_all (by rfl) (c.free 30) (by decide +kernel) (va_cons (v_lc (own := [("one", 6)]) rfl sc_is_belt.nd (vi_seq (v_var 3)) (blkOk_by (own := [("one", 6)]) (N := N_is_belt) (sc := defScope Hd.s_is_belt) (by decide +kernel)) (by decide) (fun _ _ _ _ _ => (vg_name 6 sc_is_belt.nd)) (fun _ _ _ _ _ => vts_nil) (fun _ _ _ _ _ => (v_callF h_is_kicker B.room (by decide) passN (by rfl) (va_cons (v_var 6) va_nil)))) va_nil))))))))))
abbrev N_need_belt : List Str := ["belt"]
theorem sc_need_belt : FnScope N_need_belt ["belt"] (defScope Hd.s_need_belt) := ⟨rfl, rfl, rfl, by decide +kernel, rfl, by decide +kernel, by decide +kernel⟩
theorem ok_need_belt (c : Fc Hd.fa Hd.fn K mg) (h_is_belt : OkF P w K mg base T "is_belt" 4 ["thing"] g_is_belt) : OkF P w K mg base T "need_belt" 5 ["belt"] g_need_belt := by
  refine okF_mk (d := Hd.d_need_belt) (N := N_need_belt) c 5 5 sc_need_belt (fun _ _ _ _ _ _ us hl => match us, hl with | [_], _ => rfl) ?_
  intro cdv A outer s H E hcd B
  exact (vs_one (vs_if (vt_not (vt_val (v_callF h_is_belt B.room (by decide) B.hx (by rfl) (va_cons (v_var 0) va_nil)))) (vs_one (c.raise_ (x := "BadBelt") 49 22 rfl B.tk rfl)) vs_nil))
abbrev N_numbers_text : List Str := ["numbers", "number"]
theorem sc_numbers_text : FnScope N_numbers_text ["numbers"] (defScope Hd.s_numbers_text) := ⟨rfl, rfl, rfl, by decide +kernel, rfl, by decide +kernel, by decide +kernel⟩
theorem ok_numbers_text (c : Fc Hd.fa Hd.fn K mg) : OkF P w K mg base T "numbers_text" 1 ["numbers"] g_numbers_text := by
  refine okF_mk (d := Hd.d_numbers_text) (N := N_numbers_text) c 6 6 sc_numbers_text (fun _ _ _ _ _ _ us hl => match us, hl with | [_], _ => rfl) ?_
  intro cdv A outer s H E hcd B
  exact (vs_one (vs_ret (v_if (vt_cmp op_gt n_cmpI (v_len (by rfl) (c.free 34) (v_var 0)) v_int) (v_join v_str (v_lc (own := [("number", 1)]) rfl sc_numbers_text.nd (vi_seq (v_var 0)) (blkOk_by (own := [("number", 1)]) (N := N_numbers_text) (sc := defScope Hd.s_numbers_text) (by decide +kernel)) (by decide) (fun _ _ _ _ _ => (vg_name 1 sc_numbers_text.nd)) (fun _ _ _ _ _ => vts_nil) (fun _ _ _ _ _ => (v_callT call_str_int n_strI (by rfl) (c.free 38) (by decide +kernel) (va_cons (v_var 1) va_nil))))) v_str)))
abbrev N_belt_text : List Str := ["belt", "faults", "spots", "kickers", "place", "cost", "own"]
theorem sc_belt_text : FnScope N_belt_text ["belt"] (defScope Hd.s_belt_text) := ⟨rfl, rfl, rfl, by decide +kernel, rfl, by decide +kernel, by decide +kernel⟩
theorem ok_belt_text (c : Fc Hd.fa Hd.fn K mg) (h_numbers_text : OkF P w K mg base T "numbers_text" 1 ["numbers"] g_numbers_text) : OkF P w K mg base T "belt_text" 2 ["belt"] g_belt_text := by
  refine okF_mk (d := Hd.d_belt_text) (N := N_belt_text) c 7 7 sc_belt_text (fun _ _ _ _ _ _ us hl => match us, hl with | [_], _ => rfl) ?_
  intro cdv A outer s H E hcd B
  exact (vs_cons (vs_set 1 sc_belt_text.nd (v_callF h_numbers_text B.room (by decide) B.hx (by rfl) (va_cons (v_ix (v_var 0) v_int) va_nil))) (vs_cons (vs_set 2 sc_belt_text.nd (v_join v_str (v_lc (own := [("place", 4), ("cost", 5), ("own", 6)]) rfl sc_belt_text.nd (vi_seq (v_ix (v_var 0) v_int)) (blkOk_by (own := [("place", 4), ("cost", 5), ("own", 6)]) (N := N_belt_text) (sc := defScope Hd.s_belt_text) (by decide +kernel)) (by decide) (fun _ _ _ _ _ => (vg_tup rfl (vgs_cons (vg_name 4 sc_belt_text.nd) (vgs_cons (vg_name 5 sc_belt_text.nd) (vgs_cons (vg_name 6 sc_belt_text.nd) vgs_nil))))) (fun _ _ _ _ _ => vts_nil) (fun _ _ _ _ _ => (v_add (v_add (v_add (v_add (v_callT call_str_int n_strI (by rfl) (c.free 38) (by decide +kernel) (va_cons (v_var 4) va_nil)) v_str) (v_callT call_str_int n_strI (by rfl) (c.free 38) (by decide +kernel) (va_cons (v_var 5) va_nil))) v_str) (v_callF h_numbers_text B.room (by decide) passN (by rfl) (va_cons (v_var 6) va_nil))))))) (vs_cons (vs_set 3 sc_belt_text.nd (v_join v_str (v_lc (own := [("place", 4), ("cost", 5)]) rfl sc_belt_text.nd (vi_seq (v_ix (v_var 0) v_int)) (blkOk_by (own := [("place", 4), ("cost", 5)]) (N := N_belt_text) (sc := defScope Hd.s_belt_text) (by decide +kernel)) (by decide) (fun _ _ _ _ _ => (vg_tup rfl (vgs_cons (vg_name 4 sc_belt_text.nd) (vgs_cons (vg_name 5 sc_belt_text.nd) vgs_nil)))) (fun _ _ _ _ _ => vts_nil) (fun _ _ _ _ _ => (v_add (v_add (v_callT call_str_int n_strI (by rfl) (c.free 38) (by decide +kernel) (va_cons (v_var 4) va_nil)) v_str) (v_callT call_str_int n_strI (by rfl) (c.free 38) (by decide +kernel) (va_cons (v_var 5) va_nil))))))) (vs_one (vs_ret (v_add (v_add (v_add (v_add (v_var 1) v_str) (v_var 2)) v_str) (v_var 3)))))))
abbrev N_written : List Str := ["belt"]
theorem sc_written : FnScope N_written ["belt"] (defScope Hd.s_written) := ⟨rfl, rfl, rfl, by decide +kernel, rfl, by decide +kernel, by decide +kernel⟩
theorem ok_written (c : Fc Hd.fa Hd.fn K mg) (h_need_belt : OkF P w K mg base T "need_belt" 5 ["belt"] g_need_belt) (h_belt_text : OkF P w K mg base T "belt_text" 2 ["belt"] g_belt_text) : OkF P w K mg base T "written" 6 ["belt"] g_written := by
  refine okF_mk (d := Hd.d_written) (N := N_written) c 8 8 sc_written (fun _ _ _ _ _ _ us hl => match us, hl with | [_], _ => rfl) ?_
  intro cdv A outer s H E hcd B
  exact (vs_cons (vs_expr (v_callF h_need_belt B.room (by decide) B.hx (by rfl) (va_cons (v_var 0) va_nil))) (vs_one (vs_ret (v_callF h_belt_text B.room (by decide) B.hx (by rfl) (va_cons (v_var 0) va_nil)))))
abbrev N_number_in : List Str := ["text", "sign"]
theorem sc_number_in : FnScope N_number_in ["text"] (defScope Hd.s_number_in) := ⟨rfl, rfl, rfl, by decide +kernel, rfl, by decide +kernel, by decide +kernel⟩
theorem ok_number_in (c : Fc Hd.fa Hd.fn K mg) : OkF P w K mg base T "number_in" 1 ["text"] g_number_in := by
  refine okF_mk (d := Hd.d_number_in) (N := N_number_in) c 9 9 sc_number_in (fun _ _ _ _ _ _ us hl => match us, hl with | [_], _ => rfl) ?_
  intro cdv A outer s H E hcd B
  exact (vs_cons (vs_if (vt_w (vw_or (vt_not (vt_chain op_le op_le n_cmpI n_cmpI v_int (v_len (by rfl) (c.free 34) (v_var 0)) v_int)) (vw_or1 (vt_not (vt_val (v_callB (cr_all rfl) n_all (by rfl) (c.free 30) (by decide +kernel) (va_cons (v_lc (own := [("sign", 1)]) rfl sc_number_in.nd (vi_str (v_var 0)) (blkOk_by (own := [("sign", 1)]) (N := N_number_in) (sc := defScope Hd.s_number_in) (by decide +kernel)) (by decide) (fun _ _ _ _ _ => (vg_name 1 sc_number_in.nd)) (fun _ _ _ _ _ => vts_nil) (fun _ _ _ _ _ => (v_cmp op_in_sign (Serves0.s n_inS) (v_var 1) (v_gstr (by rfl) (c.str 47))))) va_nil))))))) (vs_one (c.raise_ (x := "BadText") 55 28 rfl B.tk rfl)) vs_nil) (vs_one (vs_ret (v_callT call_int_str n_intS (by rfl) (c.free 32) (by decide +kernel) (va_cons (v_var 0) va_nil)))))
abbrev N_numbers_in : List Str := ["text", "part"]
theorem sc_numbers_in : FnScope N_numbers_in ["text"] (defScope Hd.s_numbers_in) := ⟨rfl, rfl, rfl, by decide +kernel, rfl, by decide +kernel, by decide +kernel⟩
theorem ok_numbers_in (c : Fc Hd.fa Hd.fn K mg) (h_number_in : OkF P w K mg base T "number_in" 1 ["text"] g_number_in) : OkF P w K mg base T "numbers_in" 2 ["text"] g_numbers_in := by
  refine okF_mk (d := Hd.d_numbers_in) (N := N_numbers_in) c 10 10 sc_numbers_in (fun _ _ _ _ _ _ us hl => match us, hl with | [_], _ => rfl) ?_
  intro cdv A outer s H E hcd B
  exact (vs_one (vs_ret (v_if (vt_cmp (s_ne (hu := B.hu)) n_ne (v_var 0) v_str) (v_callT call_tuple_of n_tuple (by rfl) (c.free 40) (by decide +kernel) (va_cons (v_lcX (own := [("part", 1)]) B.tk rfl sc_numbers_in.nd (vi_seq (v_split (v_var 0) v_str)) (blkOk_by (own := [("part", 1)]) (N := N_numbers_in) (sc := defScope Hd.s_numbers_in) (by decide +kernel)) (by decide) (fun _ _ _ _ _ => (vg_name 1 sc_numbers_in.nd)) (fun _ _ _ _ _ hxB => vts_nil) (fun _ _ _ _ _ hxB => (v_callF h_number_in B.room (by decide) hxB (by rfl) (va_cons (v_var 1) va_nil)))) va_nil)) (v_tup va_nil))))
abbrev N_parts_in : List Str := ["text", "many", "found", "part"]
theorem sc_parts_in : FnScope N_parts_in ["text", "many"] (defScope Hd.s_parts_in) := ⟨rfl, rfl, rfl, by decide +kernel, rfl, by decide +kernel, by decide +kernel⟩
theorem ok_parts_in (c : Fc Hd.fa Hd.fn K mg) : OkF P w K mg base T "parts_in" 1 ["text", "many"] g_parts_in := by
  refine okF_mk (d := Hd.d_parts_in) (N := N_parts_in) c 11 11 sc_parts_in (fun _ _ _ _ _ _ us hl => match us, hl with | [_, _], _ => rfl) ?_
  intro cdv A outer s H E hcd B
  exact (vs_cons (vs_set 2 sc_parts_in.nd (v_if (vt_cmp (s_ne (hu := B.hu)) n_ne (v_var 0) v_str) (v_lc (own := [("part", 3)]) rfl sc_parts_in.nd (vi_seq (v_split (v_var 0) v_str)) (blkOk_by (own := [("part", 3)]) (N := N_parts_in) (sc := defScope Hd.s_parts_in) (by decide +kernel)) (by decide) (fun _ _ _ _ _ => (vg_name 3 sc_parts_in.nd)) (fun _ _ _ _ _ => vts_nil) (fun _ _ _ _ _ => (v_split (v_var 3) v_str))) (v_lst va_nil))) (vs_cons (vs_if (vt_not (vt_val (v_callB (cr_all rfl) n_all (by rfl) (c.free 30) (by decide +kernel) (va_cons (v_lc (own := [("part", 3)]) rfl sc_parts_in.nd (vi_seq (v_var 2)) (blkOk_by (own := [("part", 3)]) (N := N_parts_in) (sc := defScope Hd.s_parts_in) (by decide +kernel)) (by decide) (fun _ _ _ _ _ => (vg_name 3 sc_parts_in.nd)) (fun _ _ _ _ _ => vts_nil) (fun _ _ _ _ _ => (v_cmp (s_eq (hu := B.hu)) (Serves0.s n_eq) (v_len (by rfl) (c.free 34) (v_var 3)) (v_var 1)))) va_nil)))) (vs_one (c.raise_ (x := "BadText") 55 28 rfl B.tk rfl)) vs_nil) (vs_one (vs_ret (v_var 2)))))
abbrev N_read : List Str := ["text", "parts", "spots", "kickers", "found", "one", "two", "own"]
theorem sc_read : FnScope N_read ["text"] (defScope Hd.s_read) := ⟨rfl, rfl, rfl, by decide +kernel, rfl, by decide +kernel, by decide +kernel⟩
theorem ok_read (c : Fc Hd.fa Hd.fn K mg) (h_parts_in : OkF P w K mg base T "parts_in" 1 ["text", "many"] g_parts_in) (h_numbers_in : OkF P w K mg base T "numbers_in" 2 ["text"] g_numbers_in) (h_number_in : OkF P w K mg base T "number_in" 1 ["text"] g_number_in) (h_is_belt : OkF P w K mg base T "is_belt" 4 ["thing"] g_is_belt) (h_belt_text : OkF P w K mg base T "belt_text" 2 ["belt"] g_belt_text) : OkF P w K mg base T "read" 5 ["text"] g_read := by
  refine okF_mk (d := Hd.d_read) (N := N_read) c 12 12 sc_read (fun _ _ _ _ _ _ us hl => match us, hl with | [_], _ => rfl) ?_
  intro cdv A outer s H E hcd B
  exact (vs_cons (vs_if (vt_not (vt_val (v_isi isT_str (by rfl) (c.free 33) (by rfl) (c.free 38) boot_str (v_var 0)))) (vs_one (c.raise_ (x := "BadText") 55 28 rfl B.tk rfl)) vs_nil) (vs_cons (vs_set 1 sc_read.nd (v_split (v_var 0) v_str)) (vs_cons (vs_if (vt_cmp (s_ne (hu := B.hu)) n_ne (v_len (by rfl) (c.free 34) (v_var 1)) v_int) (vs_one (c.raise_ (x := "BadText") 55 28 rfl B.tk rfl)) vs_nil) (vs_cons (vs_setLcX 2 (own := [("one", 5), ("two", 6), ("own", 7)]) B.tk rfl sc_read.nd (vi_seq (v_callF h_parts_in B.room (by decide) B.hx (by rfl) (va_cons (v_ix (v_var 1) v_int) (va_cons v_int va_nil)))) (blkOk_by (own := [("one", 5), ("two", 6), ("own", 7)]) (N := N_read) (sc := defScope Hd.s_read) (by decide +kernel)) (by decide) (fun _ _ _ _ _ => (vg_lst rfl (vgs_cons (vg_name 5 sc_read.nd) (vgs_cons (vg_name 6 sc_read.nd) (vgs_cons (vg_name 7 sc_read.nd) vgs_nil))))) (fun _ _ _ _ _ hxB => vts_nil) (fun _ _ _ _ _ hxB => (v_tup (va_cons (v_callF h_number_in B.room (by decide) hxB (by rfl) (va_cons (v_var 5) va_nil)) (va_cons (v_callF h_number_in B.room (by decide) hxB (by rfl) (va_cons (v_var 6) va_nil)) (va_cons (v_callF h_numbers_in B.room (by decide) hxB (by rfl) (va_cons (v_var 7) va_nil)) va_nil))))) (sw_true rfl rfl rfl (by decide +kernel))) (vs_cons (vs_setLcX 3 (own := [("one", 5), ("two", 6)]) B.tk rfl sc_read.nd (vi_seq (v_callF h_parts_in B.room (by decide) B.hx (by rfl) (va_cons (v_ix (v_var 1) v_int) (va_cons v_int va_nil)))) (blkOk_by (own := [("one", 5), ("two", 6)]) (N := N_read) (sc := defScope Hd.s_read) (by decide +kernel)) (by decide) (fun _ _ _ _ _ => (vg_lst rfl (vgs_cons (vg_name 5 sc_read.nd) (vgs_cons (vg_name 6 sc_read.nd) vgs_nil)))) (fun _ _ _ _ _ hxB => vts_nil) (fun _ _ _ _ _ hxB => (v_tup (va_cons (v_callF h_number_in B.room (by decide) hxB (by rfl) (va_cons (v_var 5) va_nil)) (va_cons (v_callF h_number_in B.room (by decide) hxB (by rfl) (va_cons (v_var 6) va_nil)) va_nil)))) (sw_true rfl rfl rfl (by decide +kernel))) (vs_cons (vs_set 4 sc_read.nd (v_tup (va_cons (v_callF h_numbers_in B.room (by decide) B.hx (by rfl) (va_cons (v_ix (v_var 1) v_int) va_nil)) (va_cons (v_callT call_tuple_of n_tuple (by rfl) (c.free 40) (by decide +kernel) (va_cons (v_var 2) va_nil)) (va_cons (v_callT call_tuple_of n_tuple (by rfl) (c.free 40) (by decide +kernel) (va_cons (v_var 3) va_nil)) va_nil))))) (vs_cons (vs_if (vt_w (vw_or (vt_not (vt_val (v_callF h_is_belt B.room (by decide) B.hx (by rfl) (va_cons (v_var 4) va_nil)))) (vw_or1 (vt_cmp (s_ne (hu := B.hu)) n_ne (v_callF h_belt_text B.room (by decide) B.hx (by rfl) (va_cons (v_var 4) va_nil)) (v_var 0))))) (vs_one (c.raise_ (x := "BadText") 55 28 rfl B.tk rfl)) vs_nil) (vs_one (vs_ret (v_var 4))))))))))
abbrev N_law_cell : List Str := ["_law_script", "_law_k"]
theorem sc_law_cell : FnScope N_law_cell ["_law_script", "_law_k"] (defScope Hd.s__law_cell) := ⟨rfl, rfl, rfl, by decide +kernel, rfl, by decide +kernel, by decide +kernel⟩
theorem ok_law_cell (c : Fc Hd.fa Hd.fn K mg) : OkF P w K mg base T "_law_cell" 1 ["_law_script", "_law_k"] g_law_cell := by
  refine okF_mk (d := Hd.d__law_cell) (N := N_law_cell) c 13 13 sc_law_cell (fun _ _ _ _ _ _ us hl => match us, hl with | [_, _], _ => rfl) ?_
  intro cdv A outer s H E hcd B
  exact (vs_cons (vs_if (vt_cmp (s_eq (hu := B.hu)) n_eq (v_var 0) (v_lst va_nil)) (vs_one (vs_ret (v_mul (v_var 1) v_int))) vs_nil) (vs_one (vs_ret (v_add (v_ix (v_var 0) (v_mod (v_var 1) (v_len (by rfl) (c.free 34) (v_var 0)))) (v_mul (v_fdiv (v_var 1) (v_len (by rfl) (c.free 34) (v_var 0))) v_int)))))
abbrev N_law_drawn : List Str := ["_law_cell_here", "_law_k", "_law_more"]
theorem sc_law_drawn : FnScope N_law_drawn ["_law_cell_here", "_law_k"] (defScope Hd.s__law_drawn) := ⟨rfl, rfl, rfl, by decide +kernel, rfl, by decide +kernel, by decide +kernel⟩
theorem ok_law_drawn (c : Fc Hd.fa Hd.fn K mg) : OkF P w K mg base T "_law_drawn" 1 ["_law_cell_here", "_law_k"] g_law_drawn := by
  refine okF_mk (d := Hd.d__law_drawn) (N := N_law_drawn) c 14 14 sc_law_drawn (fun _ _ _ _ _ _ us hl => match us, hl with | [_, _], _ => rfl) ?_
  intro cdv A outer s H E hcd B
  exact (vs_cons (vs_set 2 sc_law_drawn.nd (v_mod (v_add (v_mul (v_var 0) v_int) (v_mul (v_add (v_var 1) v_int) v_int)) v_int)) (vs_cons (vs_set 2 sc_law_drawn.nd (v_mod (v_mul (v_var 2) (v_var 2)) v_int)) (vs_cons (vs_set 2 sc_law_drawn.nd (v_mul (v_mul (v_add (v_mod (v_var 2) v_int) v_int) (v_add (v_fdiv (v_var 2) v_int) v_int)) (v_var 2))) (vs_one (vs_ret (v_mod (v_var 2) v_int))))))
abbrev N_law_word : List Str := ["_law_e", "_law_flags", "_law_flag"]
theorem sc_law_word : FnScope N_law_word ["_law_e"] (defScope Hd.s__law_word) := ⟨rfl, rfl, rfl, by decide +kernel, rfl, by decide +kernel, by decide +kernel⟩
theorem body_word (c : Fc Hd.fa Hd.fn K mg) (hx : Hd.ex K = true) (cdv : Value) (A : Around) (outer : List Env) (s : Shared) (H : Hp) (E : XK) (p : Addr × Obj) (cx : Str) (hcx : cx ∈ (["BadBelt", "BadPlan", "BadBottle", "BadNumber", "BadPaper", "NoPlan", "BadText"] : List Str)) (hot : Hot1 (A.deeper (envOfC Hd.d__law_word.qual Hd.d__law_word.scope s.heap.objs.size (He.ga K "_law_word") cdv)) p) (hu : (A.deeper (envOfC Hd.d__law_word.qual Hd.d__law_word.scope s.heap.objs.size (He.ga K "_law_word") cdv)).units + 65 < cLine) (hz : Zc (clsV K cx) none p.2) (hf : ∃ us, p.2.data = .fields us) : VSs (cxH (L2N.CX P w) P w K mg base N_law_word Hd.d__law_word.qual Hd.d__law_word.scope (He.ga K "_law_word") cdv A outer s H E p) T E H Hd.d__law_word.body (F_law_word p.1 cx) := by
  have hin : cx ∈ Hd.exNames := List.mem_of_elem_eq_true (List.all_eq_true.mp (show (["BadBelt", "BadPlan", "BadBottle", "BadNumber", "BadPaper", "NoPlan", "BadText"] : List Str).all (fun y => Hd.exNames.elem y) = true by decide +kernel) cx hcx)
  obtain ⟨e1, e2, _⟩ := Hd.ex_ok hx
  have hsub0 : ∀ y ∈ (["BadBelt", "BadPlan", "BadBottle", "BadNumber", "BadPaper", "NoPlan", "BadText"] : List Str), PySem.W.subIn K (.ref (He.ga K y)) (.type "BaseException") = some true := by
    intro y hy
    simp only [List.mem_cons, List.not_mem_nil, or_false] at hy
    rcases hy with rfl | rfl | rfl | rfl | rfl | rfl | rfl
    · exact (He.exc_ok (c.d.fact 49 rfl)).2.2.1
    · exact (He.exc_ok (c.d.fact 50 rfl)).2.2.1
    · exact (He.exc_ok (c.d.fact 51 rfl)).2.2.1
    · exact (He.exc_ok (c.d.fact 52 rfl)).2.2.1
    · exact (He.exc_ok (c.d.fact 53 rfl)).2.2.1
    · exact (He.exc_ok (c.d.fact 54 rfl)).2.2.1
    · exact (He.exc_ok (c.d.fact 55 rfl)).2.2.1
  have hsub : PySem.W.subIn K (.ref (He.ga K cx)) (.type "BaseException") = some true := hsub0 cx hcx
  obtain ⟨C, hv⟩ := Hd.ec_ok (e1 cx hin) hsub
  have hk := e2 cx hin
  have hp : (p.1, p.2) ∈ [p] := List.mem_cons_self
  revert hp
  obtain ⟨a, oe⟩ := p
  intro hp
  exact (vs_cons (vs_set 1 sc_law_word.nd (v_lst (va_cons (v_isE (i := 0) (y := "_law_e") (vc := .ref (He.ga K "BadBelt")) (cv := .ref (He.ga K "BadBelt")) C hp hz hf (by rfl) (c.free 33) (pe_glob (by rfl) (c.glo 22) rfl) (fun _ h => h) (hk "BadBelt" (by decide))) (va_cons (v_isE (i := 0) (y := "_law_e") (vc := .ref (He.ga K "BadPlan")) (cv := .ref (He.ga K "BadPlan")) C hp hz hf (by rfl) (c.free 33) (pe_glob (by rfl) (c.glo 23) rfl) (fun _ h => h) (hk "BadPlan" (by decide))) (va_cons (v_isE (i := 0) (y := "_law_e") (vc := .ref (He.ga K "BadBottle")) (cv := .ref (He.ga K "BadBottle")) C hp hz hf (by rfl) (c.free 33) (pe_glob (by rfl) (c.glo 24) rfl) (fun _ h => h) (hk "BadBottle" (by decide))) (va_cons (v_isE (i := 0) (y := "_law_e") (vc := .ref (He.ga K "BadNumber")) (cv := .ref (He.ga K "BadNumber")) C hp hz hf (by rfl) (c.free 33) (pe_glob (by rfl) (c.glo 25) rfl) (fun _ h => h) (hk "BadNumber" (by decide))) va_nil)))))) (vs_cons (vs_set 1 sc_law_word.nd (v_add (v_var 1) (v_lst (va_cons (v_isE (i := 0) (y := "_law_e") (vc := .ref (He.ga K "BadPaper")) (cv := .ref (He.ga K "BadPaper")) C hp hz hf (by rfl) (c.free 33) (pe_glob (by rfl) (c.glo 26) rfl) (fun _ h => h) (hk "BadPaper" (by decide))) (va_cons (v_isE (i := 0) (y := "_law_e") (vc := .ref (He.ga K "NoPlan")) (cv := .ref (He.ga K "NoPlan")) C hp hz hf (by rfl) (c.free 33) (pe_glob (by rfl) (c.glo 27) rfl) (fun _ h => h) (hk "NoPlan" (by decide))) (va_cons (v_isE (i := 0) (y := "_law_e") (vc := .ref (He.ga K "BadText")) (cv := .ref (He.ga K "BadText")) C hp hz hf (by rfl) (c.free 33) (pe_glob (by rfl) (c.glo 28) rfl) (fun _ h => h) (hk "BadText" (by decide))) va_nil)))))) (vs_cons (vs_if (vt_w (vw_or (vt_cmp (s_ne (hu := (Nat.lt_trans (Nat.lt_succ_self _) hu))) n_ne (v_callB (cr_sumH ⟨_, hot, hp⟩) n_sum (by rfl) (c.free 39) (by decide +kernel) (va_cons (v_lcH (own := [("_law_flag", 2)]) hot hp sc_law_word.nd (v_var 1) (blkOk_by (own := [("_law_flag", 2)]) (N := N_law_word) (sc := defScope Hd.s__law_word) (by decide +kernel)) (by decide) (fun _ _ _ _ _ => (vg_name 2 sc_law_word.nd)) (fun _ _ _ _ _ => vts_nil) (fun _ _ _ _ _ => (v_callT call_int1 n_intc (by rfl) (c.free 32) (by decide +kernel) (va_cons (v_var 2) va_nil)))) va_nil)) v_int) (vw_or1 (vt_not (vt_val (v_isE (i := 0) (y := "_law_e") (vc := .ty "ValueError") (cv := .type "ValueError") C hp hz hf (by rfl) (c.free 33) (pe_bltn (v := .ty "ValueError") (by rfl) (c.free 29) (by decide +kernel) rfl) (fun _ h => h) hv)))))) (vs_one (vs_ret v_str)) vs_nil) (vs_one (vs_ret (v_ix (v_lst (va_cons v_str (va_cons v_str (va_cons v_str (va_cons v_str (va_cons v_str (va_cons v_str (va_cons v_str va_nil)))))))) (v_index hu (v_var 1) v_bl)))))))
theorem word_ok (c : Fc Hd.fa Hd.fn K mg) (hx : Hd.ex K = true) : (∃ fd, FnW P w K mg base 1 (He.ga K "_law_word") fd ["_law_e"] (spW K T ["BadBelt", "BadPlan", "BadBottle", "BadNumber", "BadPaper", "NoPlan", "BadText"]) ∧ Binds K fd ["_law_e"] []) ∧ PySem.W.keepIn K (.ref (He.ga K "_law_word")) = true ∧ mg "_law_word" = some (.ref (He.ga K "_law_word")) := by
  obtain ⟨fd, Fd⟩ := fc_fun (x := "_law_word") (d := Hd.d__law_word) c 15
  exact ⟨⟨fd, word_fn (F := F_law_word) Fd sc_law_word (fun cdv A outer s H E p cx h1 h2 h3 h4 h5 => body_word c hx cdv A outer s H E p cx h1 h2 h3 h4 h5) word_val (by decide +kernel), Fd.bindsN (fun _ _ _ _ _ _ us hl => match us, hl with | [_], _ => rfl)⟩, Fd.kp, c.glo 15⟩
abbrev N_law_some : List Str := ["_law_more", "_law_many", "_law_by", "_law_number"]
theorem sc_law_some : FnScope N_law_some ["_law_more", "_law_many", "_law_by"] (defScope Hd.s__law_some) := ⟨rfl, rfl, rfl, by decide +kernel, rfl, by decide +kernel, by decide +kernel⟩
theorem ok_law_some (c : Fc Hd.fa Hd.fn K mg) (h_law_drawn : OkF P w K mg base T "_law_drawn" 1 ["_law_cell_here", "_law_k"] g_law_drawn) : OkF P w K mg base T "_law_some" 2 ["_law_more", "_law_many", "_law_by"] g_law_some := by
  refine okF_mk (d := Hd.d__law_some) (N := N_law_some) c 17 17 sc_law_some (fun _ _ _ _ _ _ us hl => match us, hl with | [_, _, _], _ => rfl) ?_
  intro cdv A outer s H E hcd B
  exact (vs_one (vs_ret (v_callT call_tuple_of n_tuple (by rfl) (c.free 40) (by decide +kernel) (va_cons (v_lc (own := [("_law_number", 3)]) rfl sc_law_some.nd (vi_rng (by rfl) (c.free 37) (v_var 1)) (blkOk_by (own := [("_law_number", 3)]) (N := N_law_some) (sc := defScope Hd.s__law_some) (by decide +kernel)) (by decide) (fun _ _ _ _ _ => (vg_name 3 sc_law_some.nd)) (fun _ _ _ _ _ => (vts_one (vt_cmp op_gt n_cmpI (v_mod (v_fdiv (v_callF h_law_drawn B.room (by decide) passN (by rfl) (va_cons (v_var 0) (va_cons (v_add v_int (v_var 3)) va_nil))) v_int) (v_var 2)) v_int))) (fun _ _ _ _ _ => (v_var 3))) va_nil))))
abbrev N_law_belt : List Str := ["_law_more", "_law_most", "_law_wide", "_law_faults", "_law_spots", "_law_j", "_law_here", "_law_own", "_law_place", "_law_kickers"]
theorem sc_law_belt : FnScope N_law_belt ["_law_more", "_law_most"] (defScope Hd.s__law_belt) := ⟨rfl, rfl, rfl, by decide +kernel, rfl, by decide +kernel, by decide +kernel⟩
theorem ok_law_belt (c : Fc Hd.fa Hd.fn K mg) (h_law_drawn : OkF P w K mg base T "_law_drawn" 1 ["_law_cell_here", "_law_k"] g_law_drawn) (h_law_some : OkF P w K mg base T "_law_some" 2 ["_law_more", "_law_many", "_law_by"] g_law_some) : OkF P w K mg base T "_law_belt" 3 ["_law_more", "_law_most"] g_law_belt := by
  refine okF_mk (d := Hd.d__law_belt) (N := N_law_belt) c 18 18 sc_law_belt (fun _ _ _ _ _ _ us hl => match us, hl with | [_, _], _ => rfl) ?_
  intro cdv A outer s H E hcd B
  exact (vs_cons (vs_set 2 sc_law_belt.nd (v_ix (v_lst (va_cons v_int (va_cons v_int (va_cons v_int va_nil)))) (v_mod (v_fdiv (v_var 0) v_int) v_int))) (vs_cons (vs_set 3 sc_law_belt.nd (v_callT call_tuple_of n_tuple (by rfl) (c.free 40) (by decide +kernel) (va_cons (v_lc (own := [("_law_j", 5)]) rfl sc_law_belt.nd (vi_rng (by rfl) (c.free 37) (v_add v_int (v_mod (v_fdiv (v_var 0) v_int) (v_ix (v_lst (va_cons v_int (va_cons v_int va_nil))) (v_mod (v_fdiv (v_var 0) v_int) v_int))))) (blkOk_by (own := [("_law_j", 5)]) (N := N_law_belt) (sc := defScope Hd.s__law_belt) (by decide +kernel)) (by decide) (fun _ _ _ _ _ => (vg_name 5 sc_law_belt.nd)) (fun _ _ _ _ _ => vts_nil) (fun _ _ _ _ _ => (v_mod (v_fdiv (v_callF h_law_drawn B.room (by decide) passN (by rfl) (va_cons (v_var 0) (va_cons (v_var 5) va_nil))) v_int) (v_var 2)))) va_nil))) (vs_cons (vs_setMu 4 sc_law_belt.nd va_nil) (vs_cons (vs_for [5, 6, 7, 8] B.own rfl (vi_rng (by rfl) (c.free 37) (v_mod (v_fdiv (v_var 0) v_int) (v_add (v_var 1) v_int))) (vg_name 5 sc_law_belt.nd) (vs_cons (vs_set 6 sc_law_belt.nd (v_callF h_law_drawn B.room (by decide) B.hx (by rfl) (va_cons (v_var 0) (va_cons (v_add v_int (v_var 5)) va_nil)))) (vs_cons (vs_set 7 sc_law_belt.nd (v_callF h_law_some B.room (by decide) B.hx (by rfl) (va_cons (v_var 6) (va_cons (v_len (by rfl) (c.free 34) (v_var 3)) (va_cons (v_ix (v_lst (va_cons v_int (va_cons v_int (va_cons v_int va_nil)))) (v_mod (v_fdiv (v_var 0) v_int) v_int)) va_nil))))) (vs_cons (vs_set 8 sc_law_belt.nd (v_add (v_mod (v_fdiv (v_var 6) v_int) (v_var 2)) (v_mul (v_ix (v_lst (va_cons v_int (va_cons (v_fdiv (v_var 2) v_int) va_nil))) (v_mod (v_fdiv (v_var 6) (v_pow v_int v_int)) v_int)) (v_callT call_int1 n_intc (by rfl) (c.free 32) (by decide +kernel) (va_cons (v_cmp op_lt (Serves0.s n_cmpI) (v_var 2) v_int) va_nil))))) (vs_one (vs_app 4 (v_tup (va_cons (v_var 8) (va_cons (v_add v_int (v_mod (v_fdiv (v_var 6) v_int) (v_ix (v_lst (va_cons v_int (va_cons v_int va_nil))) (v_mod (v_fdiv (v_var 6) v_int) v_int)))) (va_cons (v_var 7) va_nil)))))))))) (vs_kill [5, 6, 7, 8] (vs_cons (vs_setMu 9 sc_law_belt.nd va_nil) (vs_cons (vs_for [5, 6] B.own rfl (vi_rng (by rfl) (c.free 37) (v_mod (v_fdiv (v_var 0) (v_pow v_int v_int)) v_int)) (vg_name 5 sc_law_belt.nd) (vs_cons (vs_set 6 sc_law_belt.nd (v_callF h_law_drawn B.room (by decide) B.hx (by rfl) (va_cons (v_var 0) (va_cons (v_add v_int (v_var 5)) va_nil)))) (vs_one (vs_app 9 (v_tup (va_cons (v_callB (CallR.or (cr_min rfl) (call_min2 rfl)) n_min (by rfl) (c.free 36) (by decide +kernel) (va_cons v_int (va_cons (v_mod (v_fdiv (v_var 6) v_int) (v_mul v_int (v_var 2))) va_nil))) (va_cons (v_mod (v_fdiv (v_var 6) v_int) (v_ix (v_lst (va_cons v_int (va_cons v_int va_nil))) (v_mod (v_fdiv (v_var 6) v_int) v_int))) va_nil))))))) (vs_kill [5, 6] (vs_frz 9 (vs_frz 4 (vs_one (vs_ret (v_tup (va_cons (v_var 3) (va_cons (v_callT call_tuple_of n_tuple (by rfl) (c.free 40) (by decide +kernel) (va_cons (v_var 4) va_nil)) (va_cons (v_callT call_tuple_of n_tuple (by rfl) (c.free 40) (by decide +kernel) (va_cons (v_var 9) va_nil)) va_nil))))))))))))))))
abbrev N_law_written : List Str := ["_law_belt_here", "_law_spots", "_law_place", "_law_price", "_law_own", "_law_kickers", "_law_one"]
theorem sc_law_written : FnScope N_law_written ["_law_belt_here"] (defScope Hd.s__law_written) := ⟨rfl, rfl, rfl, by decide +kernel, rfl, by decide +kernel, by decide +kernel⟩
theorem ok_law_written (c : Fc Hd.fa Hd.fn K mg) : OkF P w K mg base T "_law_written" 1 ["_law_belt_here"] g_law_written := by
  refine okF_mk (d := Hd.d__law_written) (N := N_law_written) c 19 19 sc_law_written (fun _ _ _ _ _ _ us hl => match us, hl with | [_], _ => rfl) ?_
  intro cdv A outer s H E hcd B
  exact (vs_cons (vs_setMu 1 sc_law_written.nd va_nil) (vs_cons (vs_for [2, 3, 4] B.own rfl (vi_seq (v_ix (v_var 0) v_int)) (vg_tup rfl (vgs_cons (vg_name 2 sc_law_written.nd) (vgs_cons (vg_name 3 sc_law_written.nd) (vgs_cons (vg_name 4 sc_law_written.nd) vgs_nil)))) (vs_one (vs_app 1 (v_join v_str (v_lst (va_cons (v_callT call_str_int n_strI (by rfl) (c.free 38) (by decide +kernel) (va_cons (v_var 2) va_nil)) (va_cons (v_callT call_str_int n_strI (by rfl) (c.free 38) (by decide +kernel) (va_cons (v_var 3) va_nil)) (va_cons (v_if (vt_cmp (s_ne (hu := B.hu)) n_ne (v_var 4) (v_tup va_nil)) (v_join v_str (v_lc (own := [("_law_one", 6)]) rfl sc_law_written.nd (vi_seq (v_var 4)) (blkOk_by (own := [("_law_one", 6)]) (N := N_law_written) (sc := defScope Hd.s__law_written) (by decide +kernel)) (by decide) (fun _ _ _ _ _ => (vg_name 6 sc_law_written.nd)) (fun _ _ _ _ _ => vts_nil) (fun _ _ _ _ _ => (v_callT call_str_int n_strI (by rfl) (c.free 38) (by decide +kernel) (va_cons (v_var 6) va_nil))))) v_str) va_nil)))))))) (vs_kill [2, 3, 4] (vs_cons (vs_setLc 5 (own := [("_law_place", 2), ("_law_price", 3)]) rfl sc_law_written.nd (vi_seq (v_ix (v_var 0) v_int)) (blkOk_by (own := [("_law_place", 2), ("_law_price", 3)]) (N := N_law_written) (sc := defScope Hd.s__law_written) (by decide +kernel)) (by decide) (fun _ _ _ _ _ => (vg_tup rfl (vgs_cons (vg_name 2 sc_law_written.nd) (vgs_cons (vg_name 3 sc_law_written.nd) vgs_nil)))) (fun _ _ _ _ _ => vts_nil) (fun _ _ _ _ _ => (v_add (v_add (v_callT call_str_int n_strI (by rfl) (c.free 38) (by decide +kernel) (va_cons (v_var 2) va_nil)) v_str) (v_callT call_str_int n_strI (by rfl) (c.free 38) (by decide +kernel) (va_cons (v_var 3) va_nil)))) (sw_true rfl rfl rfl (by decide +kernel))) (vs_frz 1 (vs_one (vs_ret (v_join v_str (v_lst (va_cons (v_join v_str (v_lc (own := [("_law_place", 2)]) rfl sc_law_written.nd (vi_seq (v_ix (v_var 0) v_int)) (blkOk_by (own := [("_law_place", 2)]) (N := N_law_written) (sc := defScope Hd.s__law_written) (by decide +kernel)) (by decide) (fun _ _ _ _ _ => (vg_name 2 sc_law_written.nd)) (fun _ _ _ _ _ => vts_nil) (fun _ _ _ _ _ => (v_callT call_str_int n_strI (by rfl) (c.free 38) (by decide +kernel) (va_cons (v_var 2) va_nil))))) (va_cons (v_join v_str (v_var 1)) (va_cons (v_join v_str (v_var 5)) va_nil))))))))))))
abbrev N_law : List Str := ["_law_script", "_law_k", "_law_more", "_law_j", "_law_here", "_law_belt_here", "_law_text", "_law_n", "_law_deep", "_law_spot", "_law_sign", "_law_bent", "_law_said", "_law_bads", "_law_bad"]
theorem sc_law : FnScope N_law ["_law_script"] (defScope Hd.s_law) := ⟨rfl, rfl, rfl, by decide +kernel, rfl, by decide +kernel, by decide +kernel⟩
theorem body_law (c : Fc Hd.fa Hd.fn K mg) (h_law_drawn : OkF P w K mg base T "_law_drawn" 1 ["_law_cell_here", "_law_k"] g_law_drawn) (h_law_cell : OkF P w K mg base T "_law_cell" 1 ["_law_script", "_law_k"] g_law_cell) (h_law_belt : OkF P w K mg base T "_law_belt" 3 ["_law_more", "_law_most"] g_law_belt) (h_law_written : OkF P w K mg base T "_law_written" 1 ["_law_belt_here"] g_law_written) (h_written : OkF P w K mg base T "written" 6 ["belt"] g_written) (h_read : OkF P w K mg base T "read" 5 ["text"] g_read) (h_need_belt : OkF P w K mg base T "need_belt" 5 ["belt"] g_need_belt) (ht : ToldOk P w K mg base T ["BadBelt", "BadPlan", "BadBottle", "BadNumber", "BadPaper", "NoPlan", "BadText"] 1 mkD) (cdv : Value) (A : Around) (outer : List Env) (s : Shared) (H : Hp) (E : XK) (H0 : Hp) (hcd : cdv = .ref (He.codeOf K ("law", none))) (B : BCx (cxOf (L2N.CX P w) P w K mg base N_law Hd.d_law.qual Hd.d_law.scope (He.ga K "law") cdv A outer s H E) E 8) : VSs (cxOf (L2N.CX P w) P w K mg base N_law Hd.d_law.qual Hd.d_law.scope (He.ga K "law") cdv A outer s H E) T E H0 Hd.d_law.body F_law := by
  exact (vs_cons (vs_for [1, 2, 3, 4, 5, 6, 7, 8, 9, 10, 11, 12, 13, 14] B.own rfl (vi_rng (by rfl) (c.free 37) (v_callB (CallR.or (cr_max rfl) (call_max2 rfl)) n_max (by rfl) (c.free 35) (by decide +kernel) (va_cons v_int (va_cons (v_callB (CallR.or (cr_min rfl) (call_min2 rfl)) n_min (by rfl) (c.free 36) (by decide +kernel) (va_cons v_int (va_cons (v_len (by rfl) (c.free 34) (v_var 0)) va_nil))) va_nil)))) (vg_name 1 sc_law.nd) (vs_cons (vs_set 2 sc_law.nd (v_callF h_law_drawn B.room (by decide) B.hx (by rfl) (va_cons (v_callF h_law_cell B.room (by decide) B.hx (by rfl) (va_cons (v_var 0) (va_cons (v_var 1) va_nil))) (va_cons (v_var 1) va_nil)))) (vs_cons (vs_for [3, 4, 5, 6, 7, 8, 9, 10, 11, 12] B.own rfl (vi_rng (by rfl) (c.free 37) v_int) (vg_name 3 sc_law.nd) (vs_cons (vs_set 4 sc_law.nd (v_callF h_law_drawn B.room (by decide) B.hx (by rfl) (va_cons (v_var 2) (va_cons (v_add v_int (v_var 3)) va_nil)))) (vs_cons (vs_set 5 sc_law.nd (v_callF h_law_belt B.room (by decide) B.hx (by rfl) (va_cons (v_var 4) (va_cons v_int va_nil)))) (vs_cons (vs_set 6 sc_law.nd (v_callF h_law_written B.room (by decide) B.hx (by rfl) (va_cons (v_var 5) va_nil))) (vs_cons (vs_if (vt_w (vw_or (vt_cmp (s_ne (hu := B.hu)) n_ne (v_callF h_written B.room (by decide) B.hx (by rfl) (va_cons (v_var 5) va_nil)) (v_var 6)) (vw_or1 (vt_cmp (s_ne (hu := B.hu)) n_ne (v_callF h_read B.room (by decide) B.hx (by rfl) (va_cons (v_var 6) va_nil)) (v_var 5))))) (vs_one (vs_ret v_bl)) vs_nil) (vs_one (vs_for [7, 8, 9, 10, 11, 12] B.own rfl (vi_rng (by rfl) (c.free 37) v_int) (vg_name 7 sc_law.nd) (vs_cons (vs_set 8 sc_law.nd (v_callF h_law_drawn B.room (by decide) B.hx (by rfl) (va_cons (v_var 4) (va_cons (v_var 7) va_nil)))) (vs_cons (vs_set 9 sc_law.nd (v_mod (v_fdiv (v_var 8) v_int) (v_add (v_len (by rfl) (c.free 34) (v_var 6)) v_int))) (vs_cons (vs_set 10 sc_law.nd (v_ix (v_lst (va_cons v_str (va_cons v_str (va_cons v_str (va_cons v_str (va_cons v_str (va_cons v_str (va_cons v_str (va_cons v_str (va_cons v_str va_nil)))))))))) (v_mod (v_fdiv (v_var 8) v_int) v_int))) (vs_cons (vs_set 11 sc_law.nd (v_add (v_add (v_sliceS (v_var 6) vo_none (vo_some (v_var 9))) (v_var 10)) (v_sliceS (v_var 6) (vo_some (v_add (v_var 9) (v_mod (v_fdiv (v_var 8) (v_pow v_int v_int)) v_int))) vo_none))) (vs_cons (vs_set 12 sc_law.nd (v_told ht (d := Hd.d_law) (List.mem_of_getElem? (i := 0) rfl) hcd B.room (by decide) (lamS_by (sc := defScope Hd.s_law) (by decide +kernel)) (fun A outer s H E f c' B => (v_callF h_read B.room (by decide) B.hx (by rfl) (va_cons (v_var 11) va_nil))) (by rfl))) (vs_one (vs_if (vt_cmp (s_eq (hu := B.hu)) n_eq (v_var 12) v_str) (vs_one (vs_if (vt_cmp (s_eq (hu := B.hu)) n_eq (v_var 11) (v_var 6)) (vs_one (vs_ret v_bl)) vs_nil)) (vs_one (vs_if (vt_w (vw_or (vt_notN (v_callF h_need_belt B.room (by decide) B.hx (by rfl) (va_cons (v_var 12) va_nil))) (vw_or1 (vt_cmp (s_ne (hu := B.hu)) n_ne (v_callF h_law_written B.room (by decide) B.hx (by rfl) (va_cons (v_var 12) va_nil)) (v_var 11))))) (vs_one (vs_ret v_bl)) vs_nil)))))))))))))))) (vs_kill [3, 4, 5, 6, 7, 8, 9, 10, 11, 12] (vs_cons (vs_set 13 sc_law.nd (v_lst (va_cons v_str (va_cons v_str (va_cons v_str (va_cons v_str (va_cons v_str (va_cons v_str (va_cons v_str (va_cons v_str (va_cons v_str (va_cons v_str (va_cons v_non va_nil))))))))))))) (vs_cons (vs_for [14] B.own rfl (vi_seq (v_add (v_var 13) (v_lst (va_cons v_str (va_cons v_str (va_cons v_str (va_cons v_str (va_cons v_str (va_cons v_int (va_cons (v_lst (va_cons v_str va_nil)) (va_cons v_str va_nil))))))))))) (vg_name 14 sc_law.nd) (vs_one (vs_if (vt_cmp (s_ne (hu := B.hu)) n_ne (v_told ht (d := Hd.d_law) (List.mem_of_getElem? (i := 0) rfl) hcd B.room (by decide) (lamS_by (sc := defScope Hd.s_law) (by decide +kernel)) (fun A outer s H E f c' B => (v_callF h_read B.room (by decide) B.hx (by rfl) (va_cons (v_var 14) va_nil))) (by rfl)) v_str) (vs_one (vs_ret v_bl)) vs_nil))) (vs_kill [14] (vs_one (vs_if (vt_w (vw_or (vt_cmp (s_ne (hu := B.hu)) n_ne (v_callF h_read B.room (by decide) B.hx (by rfl) (va_cons v_str va_nil)) (v_tup (va_cons (v_tup (va_cons v_int va_nil)) (va_cons (v_tup va_nil) (va_cons (v_tup va_nil) va_nil))))) (vw_or1 (vt_cmp (s_ne (hu := B.hu)) n_ne (v_told ht (d := Hd.d_law) (List.mem_of_getElem? (i := 0) rfl) hcd B.room (by decide) (lamS_by (sc := defScope Hd.s_law) (by decide +kernel)) (fun A outer s H E f c' B => (v_callF h_written B.room (by decide) B.hx (by rfl) (va_cons (v_tup (va_cons (v_tup va_nil) (va_cons (v_tup va_nil) (va_cons (v_tup va_nil) va_nil)))) va_nil))) (by rfl)) v_str)))) (vs_one (vs_ret v_bl)) vs_nil))))))))) (vs_kill [1, 2, 3, 4, 5, 6, 7, 8, 9, 10, 11, 12, 13, 14] (vs_one (vs_ret v_bl))))
theorem law_all (c : Fc Hd.fa Hd.fn K mg) (ht : ToldOk P w K mg base T ["BadBelt", "BadPlan", "BadBottle", "BadNumber", "BadPaper", "NoPlan", "BadText"] 1 mkD) (cdv : Value) (A : Around) (outer : List Env) (s : Shared) (H : Hp) (E : XK) (H0 : Hp) (hcd : cdv = .ref (He.codeOf K ("law", none))) (B : BCx (cxOf (L2N.CX P w) P w K mg base N_law Hd.d_law.qual Hd.d_law.scope (He.ga K "law") cdv A outer s H E) E 8) : VSs (cxOf (L2N.CX P w) P w K mg base N_law Hd.d_law.qual Hd.d_law.scope (He.ga K "law") cdv A outer s H E) T E H0 Hd.d_law.body F_law := by
  have h_is_count : OkF P w K mg base T "is_count" 1 ["thing", "low", "high"] g_is_count := ok_is_count c
  have h_is_rising : OkF P w K mg base T "is_rising" 2 ["thing", "many"] g_is_rising := ok_is_rising c h_is_count
  have h_is_spot : OkF P w K mg base T "is_spot" 3 ["thing", "faults"] g_is_spot := ok_is_spot c h_is_count h_is_rising
  have h_is_kicker : OkF P w K mg base T "is_kicker" 2 ["thing"] g_is_kicker := ok_is_kicker c h_is_count
  have h_is_belt : OkF P w K mg base T "is_belt" 4 ["thing"] g_is_belt := ok_is_belt c h_is_count h_is_spot h_is_kicker
  have h_need_belt : OkF P w K mg base T "need_belt" 5 ["belt"] g_need_belt := ok_need_belt c h_is_belt
  have h_numbers_text : OkF P w K mg base T "numbers_text" 1 ["numbers"] g_numbers_text := ok_numbers_text c
  have h_belt_text : OkF P w K mg base T "belt_text" 2 ["belt"] g_belt_text := ok_belt_text c h_numbers_text
  have h_written : OkF P w K mg base T "written" 6 ["belt"] g_written := ok_written c h_need_belt h_belt_text
  have h_number_in : OkF P w K mg base T "number_in" 1 ["text"] g_number_in := ok_number_in c
  have h_numbers_in : OkF P w K mg base T "numbers_in" 2 ["text"] g_numbers_in := ok_numbers_in c h_number_in
  have h_parts_in : OkF P w K mg base T "parts_in" 1 ["text", "many"] g_parts_in := ok_parts_in c
  have h_read : OkF P w K mg base T "read" 5 ["text"] g_read := ok_read c h_parts_in h_numbers_in h_number_in h_is_belt h_belt_text
  have h_law_cell : OkF P w K mg base T "_law_cell" 1 ["_law_script", "_law_k"] g_law_cell := ok_law_cell c
  have h_law_drawn : OkF P w K mg base T "_law_drawn" 1 ["_law_cell_here", "_law_k"] g_law_drawn := ok_law_drawn c
  have h_law_some : OkF P w K mg base T "_law_some" 2 ["_law_more", "_law_many", "_law_by"] g_law_some := ok_law_some c h_law_drawn
  have h_law_belt : OkF P w K mg base T "_law_belt" 3 ["_law_more", "_law_most"] g_law_belt := ok_law_belt c h_law_drawn h_law_some
  have h_law_written : OkF P w K mg base T "_law_written" 1 ["_law_belt_here"] g_law_written := ok_law_written c
  exact body_law c h_law_drawn h_law_cell h_law_belt h_law_written h_written h_read h_need_belt ht cdv A outer s H E H0 hcd B
theorem told_ok (c : Fc Hd.fa Hd.fn K mg) {h : Heap} (X : He.SaysX Hd.fa Hd.fn [] Hd.tf Hd.ex w h K) (TB : ∀ d ∈ mkD, TabB base mg (He.codeOf K d.at_) (He.cT K d.at_).2) : ToldOk P w K mg base (toldT K mkD) ["BadBelt", "BadPlan", "BadBottle", "BadNumber", "BadPaper", "NoPlan", "BadText"] 1 mkD := by
  obtain ⟨h1, h2, h3⟩ := word_ok (P := P) (w := w) (base := base) (T := toldT K mkD) c X.more
  obtain ⟨fd, Fd⟩ := fc_fun (x := "_law_told") (d := Hd.d__law_told) c 16
  refine ⟨h1, h2, h3, ⟨⟨_, _, fd, _, _, _, _, _, _, _, _, _, _, Fd, ⟨rfl, rfl, rfl, by decide +kernel, rfl, by decide +kernel, by decide +kernel⟩, Fd.bindsN (fun _ _ _ _ _ _ us hl => match us, hl with | [_], _ => rfl), rfl, rfl, rfl, rfl, rfl⟩, c.glo 16⟩, c.glo 21, ?_, by decide +kernel, TB, toldT_in, toldT_un (show (mkD.map fun d => (He.cT K d.at_).2).Nodup from (Hd.ex_ok X.more).2.2)⟩
  intro y hy
  simp only [List.mem_cons, List.not_mem_nil, or_false] at hy
  rcases hy with rfl | rfl | rfl | rfl | rfl | rfl | rfl
  · exact He.exm_ok (c.d.fact 57 rfl)
  · exact He.exm_ok (c.d.fact 58 rfl)
  · exact He.exm_ok (c.d.fact 59 rfl)
  · exact He.exm_ok (c.d.fact 60 rfl)
  · exact He.exm_ok (c.d.fact 61 rfl)
  · exact He.exm_ok (c.d.fact 62 rfl)
  · exact He.exm_ok (c.d.fact 63 rfl)
end
end PX

namespace PX
open PySem PySem.W PySem.Calls PyProof.Rows
theorem holds_of (hlaw : ∀ ns : List Int, ns.length ≤ 63 → g_law [.list (ns.map .int)] = .ok (.bool true)) : PySem.Challenge.rw_beltlooks_k50_whole_texts.Holds := by
  w_on; o_law
  refine HandSHeadRun.head_any (r := OpenLaw.row PySem.Challenge.rw_beltlooks_k50_whole_texts) (q := view (OpenLaw.row PySem.Challenge.rw_beltlooks_k50_whole_texts).prog [38]) (H := Hd.hk) (ob := Hd.ob) (M := 6000) (loose := Hd.loose) (d := HandSHeadRun.topDef (OpenLaw.row PySem.Challenge.rw_beltlooks_k50_whole_texts).prog 38) (kwd := []) Hd.ob_eq
    (by kernel_rfl) (fun s => by kernel_rfl) Hd.run (by kernel_rfl) (by kernel_rfl) (by kernel_rfl) (by rfl) (by first | assumption | decide +kernel) (by decide +kernel) ⟨rfl, rfl, rfl, rfl, rfl, by decide +kernel⟩ ?hw ?hc
  case hw => w_witness2
  case hc =>
    refine LamX.walk_ofTsE (l := PySem.Challenge.rw_beltlooks_k50_whole_texts) (n := 63) (k := 9) (x := "_law_script") (CX := fun w => L2N.CX (PySem.Challenge.rw_beltlooks_k50_whole_texts).prog w) rfl (by decide) (by kernel_rfl) ⟨rfl, by decide, by decide⟩ ?F (fun _ _ _ _ _ z => by
      obtain ⟨_, _, _, _, _, _, _, _, _, _, _, _, q⟩ := z
      exact q)
    intro w mg fa h Y G hmg0
    obtain ⟨K, KX, c⟩ := Y
    have cc : Fc Hd.fa Hd.fn K mg := ⟨c.t.d, h, KX, G⟩
    have hmg : mg ("law" : PySem.Str) = some (.ref fa) := by
      have e : (HandSHeadRun.topDef (OpenLaw.row PySem.Challenge.rw_beltlooks_k50_whole_texts).prog 38).name = ("law" : PySem.Str) := by kernel_rfl
      rw [← e]
      exact hmg0
    obtain ⟨h1, fd, hb, hF⟩ := law_at (P := (PySem.Challenge.rw_beltlooks_k50_whole_texts).prog) (w := w) (d := Hd.d_law) (N := N_law) (F := F_law) (T := toldT K mkD) (k := 8) cc 20 20 sc_law rfl (fun _ _ _ _ _ _ us hl => match us, hl with | [_], _ => rfl)
    have e := hmg.symm.trans h1
    cases e
    have hm : ∀ d ∈ mkD, He.cT K d.at_ ∈ Hd.tf.map fun p => He.cT K p := fun d hd => List.mem_map.mpr ⟨d.at_, (show mkD.map (·.at_) = Hd.tf from rfl) ▸ List.mem_map.mpr ⟨d, hd, rfl⟩, rfl⟩
    refine ⟨K, KX, fd, Hd.tf.map fun p => He.cT K p, _, fun p hp => ?_, fun p hp => ?_, fun p hp => ?_, hb, fun H a ns hl _ ht hS => ⟨a, ns, rfl, hS, by omega, toldT_start fun d hd => ht _ (hm d hd), hlaw ns hl, fun _ => rfl⟩, fun base _ _ ht => hF base fun cdv A outer s H E H0 hcd B => law_all cc (told_ok cc c fun d hd => ht _ (hm d hd)) cdv A outer s H E H0 hcd B⟩
    · obtain ⟨q, hq, rfl⟩ := List.mem_map.mp hp
      exact c.empty q hq
    · obtain ⟨q, hq, rfl⟩ := List.mem_map.mp hp
      exact c.out q hq
    · obtain ⟨q, hq, rfl⟩ := List.mem_map.mp hp
      exact PySem.W.codeHd_of_K KX (c.hd q hq)
end PX

/-! k50: the texts that the law names as bad; texts of codes below 128 -/
namespace PX
open PySem PySem.Spec PyProof.Rows L2 LamX HotX L2H TL
def isBadT : Res PyData → Bool
  | .exc c => c == "BadText"
  | _ => false
theorem isBadT_eq {r : Res PyData} (h : isBadT r = true) : r = .exc "BadText" := by
  unfold isBadT at h
  split at h
  · rw [eq_of_beq h]
  · cases h
def bads1 : List PyData := [.str "", .str "|", .str "||", .str "-||", .str "5|1:1|", .str "5|1:1:|", .str "5|1:1:0|1", .str "5||1:1:1", .str "05||", .str "5|| 1:1", .str "100||", .str "5|1:0:-|", .str "5|1:1:1|", .str "5|1:1:0,0|", .str "5|1:1:00|", .str "5||1:21", .none, .int 5, .list [.str "5||"]]
theorem bads1_all : (bads1.all fun d => isBadT (g_read [d])) = true := by decide +kernel
theorem bads1_ok {d : PyData} (h : d ∈ bads1) : g_read [d] = .exc "BadText" := isBadT_eq (List.all_eq_true.mp bads1_all d h)
def isOk5 : Res PyData → Bool
  | .ok (.tuple [.tuple [.int n], .tuple [], .tuple []]) => n == 5
  | _ => false
theorem isOk5_eq {r : Res PyData} (h : isOk5 r = true) : r = .ok (.tuple [.tuple [.int 5], .tuple [], .tuple []]) := by
  unfold isOk5 at h
  split at h
  · rw [eq_of_beq h]
  · cases h
theorem read_5 : g_read [.str "5||"] = .ok (.tuple [.tuple [.int 5], .tuple [], .tuple []]) := isOk5_eq (by decide +kernel)
def isBadB : Res PyData → Bool
  | .exc c => c == "BadBelt"
  | _ => false
theorem isBadB_eq {r : Res PyData} (h : isBadB r = true) : r = .exc "BadBelt" := by
  unfold isBadB at h
  split at h
  · rw [eq_of_beq h]
  · cases h
theorem written_no : g_written [.tuple [.tuple [], .tuple [], .tuple []]] = .exc "BadBelt" := isBadB_eq (by decide +kernel)
/-! ### texts by their codes -/
/-- codes that a text of a belt, or a text bent from one, may have -/
def Low (x : Str) : Prop := ∀ c ∈ tl x, c < 128
theorem low_app {x y : Str} (hx : Low x) (hy : Low y) : Low (x ++ y) := by
  intro c hc
  have e : tl (x ++ y) = tl x ++ tl y := tl_append x y
  rw [e] at hc
  rcases List.mem_append.mp hc with h | h
  · exact hx c h
  · exact hy c h
theorem len_app (x y : Str) : (x ++ y).length = x.length + y.length := by
  rw [len_tl, len_tl, len_tl, tl_append, List.length_append]
theorem okS_low {x : Str} (h : Low x) (hz : x.length ≤ 100000) : okS x = true := by
  unfold okS
  rw [Bool.and_eq_true]
  refine ⟨?_, decide_eq_true (by rw [sizeLine_eq]; omega)⟩
  show x.cps.all (· < 0x110000) = true
  rw [← Array.all_toList]
  exact List.all_eq_true.mpr fun c hc => decide_eq_true (Nat.lt_trans (h c hc) (by decide))
/-! ### the numbers 0 .. 99 -/
def numT (n : Nat) : Str := Str.ofString (toString ((n : Nat) : Int))
def isStrT (r : Res PyData) (x : Str) : Bool := match r with
  | .ok (.str y) => y == x
  | _ => false
theorem isStrT_eq {r : Res PyData} {x : Str} (h : isStrT r x = true) : r = .ok (.str x) := by
  unfold isStrT at h
  split at h
  · rw [eq_of_beq h]
  · cases h
def isIntT (r : Res PyData) (n : Int) : Bool := match r with
  | .ok (.int m) => m == n
  | _ => false
theorem isIntT_eq {r : Res PyData} {n : Int} (h : isIntT r n = true) : r = .ok (.int n) := by
  unfold isIntT at h
  split at h
  · rw [eq_of_beq h]
  · cases h
theorem strD_all : ((List.range 100).all fun n : Nat => isStrT (strD [.int (n : Int)]) (numT n)) = true := by decide +kernel
theorem strD_n {n : Nat} (h : n ≤ 99) : strD [.int (n : Int)] = .ok (.str (numT n)) := isStrT_eq (List.all_eq_true.mp strD_all n (List.mem_range.mpr (by omega)))
theorem number_in_all : ((List.range 100).all fun n : Nat => isIntT (g_number_in [.str (numT n)]) (n : Int)) = true := by decide +kernel
theorem number_in_n {n : Nat} (h : n ≤ 99) : g_number_in [.str (numT n)] = .ok (.int (n : Int)) := isIntT_eq (List.all_eq_true.mp number_in_all n (List.mem_range.mpr (by omega)))
theorem tl_numT (n : Nat) : tl (numT n) = numL n := tl_num n
theorem numT_len {n : Nat} (h : n ≤ 99) : (numT n).length ≤ 2 := by
  rw [len_tl, tl_numT]
  exact numL_len (by decide) (by omega)
theorem numT_low (n : Nat) : Low (numT n) := fun c hc => by
  rw [tl_numT] at hc
  by_cases q : c < 48 ∨ 57 < c
  · exact absurd hc (numL_free q)
  · omega
theorem numT_free {n s : Nat} (h : s < 48 ∨ 57 < s) : s ∉ tl (numT n) := by rw [tl_numT]; exact numL_free h
theorem join_len (y : Str) (ps : List Str) : (Txt.join y ps).length ≤ (ps.map (·.length)).sum + ps.length * y.length := by
  rw [join_eq]
  exact StrLaws.join_length_le y ps
theorem low_join {y : Str} (hy : Low y) : ∀ {ps : List Str}, (∀ p ∈ ps, Low p) → Low (Txt.join y ps)
  | [], _ => fun c hc => by cases hc
  | [p], h => h p List.mem_cons_self
  | p :: q :: r, h => by
    rw [join_eq]
    have ih := low_join hy (ps := q :: r) fun z hz => h z (List.mem_cons_of_mem _ hz)
    rw [join_eq] at ih
    exact low_app (low_app (h p List.mem_cons_self) hy) ih
theorem txtsOf_str : ∀ ps : List Str, txtsOf (ps.map PyData.str) = some ps
  | [] => rfl
  | p :: ps => by
    show (txtsOf (PyData.str p :: ps.map PyData.str)) = some (p :: ps)
    unfold txtsOf
    rw [txtsOf_str ps]
    rfl
theorem joinD_low {y : Str} {ps : List Str} (hy : Low y) (hp : ∀ p ∈ ps, Low p) (hz : (ps.map (·.length)).sum + ps.length * y.length ≤ 100000) : joinD y (.list (ps.map .str)) = .ok (.str (Txt.join y ps)) := by
  have h1 := okS_low (low_join hy hp) (Nat.le_trans (join_len y ps) hz)
  simp only [joinD, txtsOf_str]
  rw [if_pos ⟨Nat.le_trans hz (by decide), h1⟩]
end PX

/-! k50: a belt's text -/
namespace PX
open PySem PySem.Spec PyProof.Rows L2 LamX HotX L2H TL
def numsT (l : List Nat) : Str := if l = [] then "-" else Txt.join "," (l.map numT)
theorem sum_le {α : Type} (f : α → Nat) (k : Nat) : ∀ l : List α, (∀ x ∈ l, f x ≤ k) → (l.map f).sum ≤ l.length * k
  | [], _ => Nat.zero_le _
  | a :: l, h => by
    have := sum_le f k l fun x hx => h x (List.mem_cons_of_mem _ hx)
    have h1 := h a List.mem_cons_self
    rw [List.map_cons, List.sum_cons, List.length_cons, Nat.succ_mul]
    omega
theorem low_lit {x : Str} (h : ((tl x).all fun c => decide (c < 128)) = true) : Low x := fun c hc => of_decide_eq_true (List.all_eq_true.mp h c hc)
theorem strT_s (x : Str) : strT (.str x) = .ok x := rfl
theorem numsT_low (l : List Nat) : Low (numsT l) := by
  unfold numsT
  split
  · exact low_lit (by decide)
  · refine low_join (low_lit (by decide)) fun p hp => ?_
    obtain ⟨n, _, rfl⟩ := List.mem_map.mp hp
    exact numT_low n
theorem nums_sum {l : List Nat} (hl : ∀ n ∈ l, n ≤ 99) : ((l.map numT).map (·.length)).sum ≤ l.length * 2 := by
  rw [List.map_map]
  exact sum_le _ 2 l fun n hn => numT_len (hl n hn)
theorem numsT_len {l : List Nat} (hl : ∀ n ∈ l, n ≤ 99) (h6 : l.length ≤ 6) : (numsT l).length ≤ 18 := by
  unfold numsT
  split
  · decide
  · have h1 := join_len "," (l.map numT)
    have h2 := nums_sum hl
    have h3 : ("," : Str).length = 1 := by decide
    rw [h3, List.length_map] at h1
    omega
theorem numbers_text_ok {l : List Nat} (hl : ∀ n ∈ l, n ≤ 99) (h6 : l.length ≤ 6) : g_numbers_text [eN l] = .ok (.str (numsT l)) := by
  unfold g_numbers_text F_numbers_text eN numsT
  have h2 := nums_sum hl
  have h3 : ("," : Str).length = 1 := by decide
  have hj := joinD_low (y := ",") (ps := l.map numT) (low_lit (by decide)) (fun p hp => by
    obtain ⟨n, _, rfl⟩ := List.mem_map.mp hp
    exact numT_low n) (by rw [h3, List.length_map]; omega)
  rw [List.map_map] at hj
  simp only [px, px2, Res.bind_ok, strT_s]
  rw [compD_all (fun n : Nat => PyData.int (n : Int)) (fun n => [.int (n : Int)]) (fun n => .str (numT n)) l rfl (fun _ _ => rfl) fun n hn => by
    simp only [px, px2, Res.bind_ok, strD_n (hl n hn)]]
  have hj : joinD "," (.list (l.map fun n => .str (numT n))) = .ok (.str (Txt.join "," (l.map numT))) := hj
  simp only [px, px2, Res.bind_ok, hj]
  cases l with
  | nil => rfl
  | cons a r =>
    rw [if_neg (by simp)]
    simp [px, px2]
end PX

/-! k50: a belt's text, continued -/
namespace PX
open PySem PySem.Spec PyProof.Rows L2 LamX HotX L2H TL
def numZ (i : Int) : Str := numT i.toNat
def toNs (l : List Int) : List Nat := l.map Int.toNat
def spotT (s : Spt) : Str := numZ s.1 ++ ":" ++ numZ s.2.1 ++ ":" ++ numsT s.2.2
def kickT (k : Int × Int) : Str := numZ k.1 ++ ":" ++ numZ k.2
def beltT (b : Bel) : Str := numsT (toNs b.fs) ++ "|" ++ Txt.join " " (b.ss.map spotT) ++ "|" ++ Txt.join " " (b.ks.map kickT)
theorem addD_ss {x y : Str} (h : x.length + y.length ≤ 100000) : addD (.str x) (.str y) = .ok (.str (x ++ y)) := if_pos (by rw [sizeLine_eq]; omega)
theorem strD_z {i : Int} (h : 0 ≤ i ∧ i ≤ 99) : strD [.int i] = .ok (.str (numZ i)) := by
  obtain ⟨n, rfl⟩ := Int.eq_ofNat_of_zero_le h.1
  exact strD_n (by omega)
theorem numZ_len {i : Int} (h : 0 ≤ i ∧ i ≤ 99) : (numZ i).length ≤ 2 := numT_len (by omega)
theorem c1 : (":" : Str).length = 1 ∧ ("|" : Str).length = 1 ∧ (" " : Str).length = 1 ∧ ("," : Str).length = 1 := by decide
theorem eZ_eN {l : List Int} (h : ∀ p ∈ l, 0 ≤ p ∧ p ≤ 99) : eZ l = eN (toNs l) := by
  unfold eZ eN toNs
  rw [List.map_map]
  congr 1
  refine List.map_congr_left fun p hp => ?_
  show PyData.int p = PyData.int (p.toNat : Int)
  rw [Int.toNat_of_nonneg (h p hp).1]
theorem toNs_le {l : List Int} (h : ∀ p ∈ l, 0 ≤ p ∧ p ≤ 99) : ∀ n ∈ toNs l, n ≤ 99 := fun n hn => by
  obtain ⟨p, hp, rfl⟩ := List.mem_map.mp hn
  have := h p hp
  omega
theorem low_c : Low ":" ∧ Low "|" ∧ Low " " ∧ Low "," := ⟨low_lit (by decide), low_lit (by decide), low_lit (by decide), low_lit (by decide)⟩
theorem spotT_low (s : Spt) : Low (spotT s) := low_app (low_app (low_app (low_app (numT_low _) low_c.1) (numT_low _)) low_c.1) (numsT_low _)
theorem kickT_low (k : Int × Int) : Low (kickT k) := low_app (low_app (numT_low _) low_c.1) (numT_low _)
section
variable {b : Bel} (hb : b.Ok)
include hb
theorem ris_le {s : Spt} (hs : s ∈ b.ss) : (∀ n ∈ s.2.2, n ≤ 99) ∧ s.2.2.length ≤ 6 := by
  obtain ⟨h1, h2⟩ := (hb.sp s hs).2.2
  refine ⟨fun n hn => by have := h1 n hn; have := hb.f6; omega, ?_⟩
  exact Nat.le_trans (Ris.len ⟨h1, h2⟩) hb.f6
theorem spotT_len {s : Spt} (hs : s ∈ b.ss) : (spotT s).length ≤ 24 := by
  have h1 := numZ_len (hb.sp s hs).1
  have h2 := numZ_len (i := s.2.1) (by have := (hb.sp s hs).2.1; omega)
  have h3 := numsT_len (ris_le hb hs).1 (ris_le hb hs).2
  have := c1.1
  unfold spotT
  rw [len_app, len_app, len_app, len_app]
  omega
theorem kickT_len {k : Int × Int} (hk : k ∈ b.ks) : (kickT k).length ≤ 5 := by
  have h1 := numZ_len (hb.kp k hk).1
  have h2 := numZ_len (i := k.2) (by have := (hb.kp k hk).2; omega)
  have := c1.1
  unfold kickT
  rw [len_app, len_app]
  omega
theorem spots_sum : ((b.ss.map spotT).map (·.length)).sum ≤ 192 := by
  rw [List.map_map]
  have := sum_le (fun s => (spotT s).length) 24 b.ss fun s hs => spotT_len hb hs
  have h8 := hb.s8
  exact Nat.le_trans this (by omega)
theorem kicks_sum : ((b.ks.map kickT).map (·.length)).sum ≤ 15 := by
  rw [List.map_map]
  have := sum_le (fun s => (kickT s).length) 5 b.ks fun s hs => kickT_len hb hs
  have h8 := hb.k3
  exact Nat.le_trans this (by omega)
theorem spots_join : joinD " " (.list (b.ss.map fun s => .str (spotT s))) = .ok (.str (Txt.join " " (b.ss.map spotT))) := by
  have := joinD_low (y := " ") (ps := b.ss.map spotT) low_c.2.2.1 (fun p hp => by
    obtain ⟨n, _, rfl⟩ := List.mem_map.mp hp
    exact spotT_low n) (by have := spots_sum hb; have := hb.s8; rw [c1.2.2.1, List.length_map]; omega)
  rw [List.map_map] at this
  exact this
theorem kicks_join : joinD " " (.list (b.ks.map fun s => .str (kickT s))) = .ok (.str (Txt.join " " (b.ks.map kickT))) := by
  have := joinD_low (y := " ") (ps := b.ks.map kickT) low_c.2.2.1 (fun p hp => by
    obtain ⟨n, _, rfl⟩ := List.mem_map.mp hp
    exact kickT_low n) (by have := kicks_sum hb; have := hb.k3; rw [c1.2.2.1, List.length_map]; omega)
  rw [List.map_map] at this
  exact this
theorem faults_len : (numsT (toNs b.fs)).length ≤ 18 := numsT_len (toNs_le hb.fp) (by unfold toNs; rw [List.length_map]; exact hb.f6)
theorem spots_len : (Txt.join " " (b.ss.map spotT)).length ≤ 200 := by
  have h1 := join_len " " (b.ss.map spotT)
  have := spots_sum hb
  have := hb.s8
  rw [c1.2.2.1, List.length_map] at h1
  omega
theorem kicks_len : (Txt.join " " (b.ks.map kickT)).length ≤ 18 := by
  have h1 := join_len " " (b.ks.map kickT)
  have := kicks_sum hb
  have := hb.k3
  rw [c1.2.2.1, List.length_map] at h1
  omega
theorem beltT_len : (beltT b).length ≤ 300 := by
  have := faults_len hb
  have := spots_len hb
  have := kicks_len hb
  have := c1.2.1
  unfold beltT
  rw [len_app, len_app, len_app, len_app]
  omega
theorem belt_text_ok : g_belt_text [eB b] = .ok (.str (beltT b)) := by
  have hz := toNs_le hb.fp
  have h6 : (toNs b.fs).length ≤ 6 := by unfold toNs; rw [List.length_map]; exact hb.f6
  have hf := faults_len hb
  have hs := spots_len hb
  have hk := kicks_len hb
  have cc := c1.2.1
  unfold g_belt_text F_belt_text eB
  simp only [px, px2, Res.bind_ok, strT_s]
  rw [eZ_eN hb.fp, numbers_text_ok hz h6]
  simp only [px, px2, Res.bind_ok, strT_s]
  rw [compD_all eS (fun s => [.int s.1, .int s.2.1, eN s.2.2]) (fun s => .str (spotT s)) b.ss rfl (fun _ _ => rfl) fun s hs => by
    have h1 := numZ_len (hb.sp s hs).1
    have h2 := numZ_len (i := s.2.1) (by have := (hb.sp s hs).2.1; omega)
    have h3 := numsT_len (ris_le hb hs).1 (ris_le hb hs).2
    have cc := c1.1
    simp only [px, px2, Res.bind_ok, strD_z (hb.sp s hs).1, strD_z (i := s.2.1) (by have := (hb.sp s hs).2.1; omega), numbers_text_ok (ris_le hb hs).1 (ris_le hb hs).2]
    rw [addD_ss (by omega)]
    simp only [Res.bind_ok]
    rw [addD_ss (by rw [len_app]; omega)]
    simp only [Res.bind_ok]
    rw [addD_ss (by rw [len_app, len_app]; omega)]
    simp only [Res.bind_ok]
    rw [addD_ss (by rw [len_app, len_app, len_app]; omega)]
    rfl]
  simp only [px, px2, Res.bind_ok, strT_s, spots_join hb]
  rw [compD_all eK (fun k => [.int k.1, .int k.2]) (fun k => .str (kickT k)) b.ks rfl (fun _ _ => rfl) fun k hk => by
    have h1 := numZ_len (hb.kp k hk).1
    have h2 := numZ_len (i := k.2) (by have := (hb.kp k hk).2; omega)
    have cc := c1.1
    simp only [px, px2, Res.bind_ok, strD_z (hb.kp k hk).1, strD_z (i := k.2) (by have := (hb.kp k hk).2; omega)]
    rw [addD_ss (by omega)]
    simp only [Res.bind_ok]
    rw [addD_ss (by rw [len_app]; omega)]
    rfl]
  simp only [px, px2, Res.bind_ok, strT_s, kicks_join hb]
  rw [addD_ss (by omega)]
  simp only [Res.bind_ok]
  rw [addD_ss (by rw [len_app]; omega)]
  simp only [Res.bind_ok]
  rw [addD_ss (by rw [len_app, len_app]; omega)]
  simp only [Res.bind_ok]
  rw [addD_ss (by rw [len_app, len_app, len_app]; omega)]
  rfl
theorem written_ok : g_written [eB b] = .ok (.str (beltT b)) := by
  unfold g_written F_written
  simp only [px, px2, Res.bind_ok, need_belt_ok hb, belt_text_ok hb]
end
end PX

/-! k50: the law's own writing -/
namespace PX
open PySem PySem.Spec PyProof.Rows L2 LamX HotX L2H TL
theorem neD_nil (l : List Nat) : neD (.tuple (l.map fun n : Nat => .int (n : Int))) (.tuple []) = .ok (.bool (!decide (l = []))) := by
  cases l with
  | nil => rfl
  | cons a r =>
    unfold neD
    rw [if_pos (Nat.le_trans (Nat.min_le_right _ _) (by decide))]
    rfl
theorem nums_join {l : List Nat} (hl : ∀ n ∈ l, n ≤ 99) (h6 : l.length ≤ 6) : joinD "," (.list (l.map fun n => .str (numT n))) = .ok (.str (Txt.join "," (l.map numT))) := by
  have h2 := nums_sum hl
  have hj := joinD_low (y := ",") (ps := l.map numT) low_c.2.2.2 (fun p hp => by
    obtain ⟨n, _, rfl⟩ := List.mem_map.mp hp
    exact numT_low n) (by rw [c1.2.2.2, List.length_map]; omega)
  rw [List.map_map] at hj
  exact hj
theorem join3 (y a b c : Str) : Txt.join y [a, b, c] = a ++ y ++ b ++ y ++ c := by
  rw [join_eq]
  show a ++ y ++ (b ++ y ++ c) = _
  refine ext_tl ?_
  simp only [tl_append, List.append_assoc]
theorem joinD3 {y a b c : Str} (hy : Low y) (ha : Low a) (hb : Low b) (hc : Low c) (hz : a.length + b.length + c.length + 3 * y.length ≤ 100000) : joinD y (.list [.str a, .str b, .str c]) = .ok (.str (a ++ y ++ b ++ y ++ c)) := by
  have := joinD_low (y := y) (ps := [a, b, c]) hy (fun p hp => by
    rcases List.mem_cons.mp hp with rfl | hp
    · exact ha
    rcases List.mem_cons.mp hp with rfl | hp
    · exact hb
    rcases List.mem_cons.mp hp with rfl | hp
    · exact hc
    · cases hp) (by simp only [List.map_cons, List.map_nil, List.sum_cons, List.sum_nil, List.length_cons, List.length_nil]; omega)
  rw [join3] at this
  exact this
theorem low_spots (b : Bel) : Low (Txt.join " " (b.ss.map spotT)) := low_join low_c.2.2.1 fun p hp => by
  obtain ⟨n, _, rfl⟩ := List.mem_map.mp hp
  exact spotT_low n
theorem low_kicks (b : Bel) : Low (Txt.join " " (b.ks.map kickT)) := low_join low_c.2.2.1 fun p hp => by
  obtain ⟨n, _, rfl⟩ := List.mem_map.mp hp
  exact kickT_low n
theorem law_written_ok {b : Bel} (hb : b.Ok) : g_law_written [eB b] = .ok (.str (beltT b)) := by
  have hz := toNs_le hb.fp
  have h6 : (toNs b.fs).length ≤ 6 := by unfold toNs; rw [List.length_map]; exact hb.f6
  have hf := faults_len hb
  have hs := spots_len hb
  have hk := kicks_len hb
  have cc := c1.2.1
  have h8 := hb.s8
  unfold g_law_written F_law_written eB
  simp only [px, px2, Res.bind_ok, strT_s]
  rw [eZ_eN hb.fp]
  rw [forL_app b.ss eS (fun s => [.int s.1, .int s.2.1, eN s.2.2]) (fun acc => [some (.d (.tuple [eN (toNs b.fs), .tuple (b.ss.map eS), .tuple (b.ks.map eK)])), some (.mu acc), none, none, none, none, none]) (fun _ => true) (fun s => .str (spotT s)) [] rfl ?_ ?_ (fun _ _ => rfl) ?_]
  · simp only [px, px2, Res.bind_ok, strT_s]
    rw [compD_all eK (fun k => [.int k.1, .int k.2]) (fun k => .str (kickT k)) b.ks rfl (fun _ _ => rfl) fun k hk => by
      have h1 := numZ_len (hb.kp k hk).1
      have h2 := numZ_len (i := k.2) (by have := (hb.kp k hk).2; omega)
      have cc := c1.1
      simp only [px, px2, Res.bind_ok, strD_z (hb.kp k hk).1, strD_z (i := k.2) (by have := (hb.kp k hk).2; omega)]
      rw [addD_ss (by omega)]
      simp only [Res.bind_ok]
      rw [addD_ss (by rw [len_app]; omega)]
      rfl]
    have ft : b.ss.filter (fun _ => true) = b.ss := List.filter_eq_self.mpr fun _ _ => rfl
    simp only [ft, px, px2, Res.bind_ok, frzS, List.nil_append]
    rw [if_pos (by rw [List.length_map]; omega)]
    simp only [px, px2, Res.bind_ok, strT_s, eN]
    rw [compD_all (fun n : Nat => PyData.int (n : Int)) (fun n => [.int (n : Int)]) (fun n => .str (numT n)) (toNs b.fs) rfl (fun _ _ => rfl) fun n hn => by
      simp only [px, px2, Res.bind_ok, strD_n (hz n hn)]]
    simp only [px, px2, Res.bind_ok, strT_s, nums_join hz h6, spots_join hb, kicks_join hb]
    have hne : toNs b.fs ≠ [] := fun e => by
      have h1 := hb.f1
      have : (toNs b.fs).length = b.fs.length := List.length_map _
      rw [e] at this
      rw [← this] at h1
      exact absurd h1 (by decide)
    have en : Txt.join "," ((toNs b.fs).map numT) = numsT (toNs b.fs) := by unfold numsT; rw [if_neg hne]
    rw [en, joinD3 low_c.2.1 (numsT_low _) (low_spots b) (low_kicks b) (by omega)]
    rfl
  · rfl
  · show 0 + _ ≤ _; omega
  · intro acc hacc s hs
    have h1 := numZ_len (hb.sp s hs).1
    have h2 := numZ_len (i := s.2.1) (by have := (hb.sp s hs).2.1; omega)
    have r6 := ris_le hb hs
    have h3 := numsT_len r6.1 r6.2
    have cc := c1.1
    simp only [px, px2, Res.bind_ok, strT_s, strD_z (hb.sp s hs).1, strD_z (i := s.2.1) (by have := (hb.sp s hs).2.1; omega), eN, neD_nil]
    have hj3 : ∀ x : Str, x = numsT s.2.2 → joinD ":" (.list [.str (numZ s.1), .str (numZ s.2.1), .str x]) = .ok (.str (spotT s)) := fun x ex => by
      rw [ex]
      exact joinD3 low_c.1 (numT_low _) (numT_low _) (numsT_low _) (by omega)
    by_cases e : s.2.2 = []
    · have h4 := hj3 "-" (by unfold numsT; rw [if_pos e])
      rw [e]
      simp only [px, px2, Res.bind_ok, strT_s, List.map_nil, List.isEmpty_nil, Bool.not_true, Bool.false_eq_true, if_false, h4, appF, hacc, if_true]
    · have h4 := hj3 (Txt.join "," (s.2.2.map numT)) (by unfold numsT; rw [if_neg e])
      have em : (s.2.2.map fun n : Nat => PyData.int (n : Int)).isEmpty = false := by
        cases q : s.2.2 with
        | nil => exact absurd q e
        | cons a r => rfl
      simp only [em, Bool.not_false, px, px2, Res.bind_ok, strT_s]
      rw [compD_all (fun n : Nat => PyData.int (n : Int)) (fun n => [.int (n : Int)]) (fun n => .str (numT n)) s.2.2 rfl (fun _ _ => rfl) fun n hn => by
        simp only [px, px2, Res.bind_ok, strD_n (r6.1 n hn)]]
      simp only [px, px2, Res.bind_ok, strT_s, nums_join r6.1 r6.2, h4, appF, hacc, if_true]
end PX

/-! k50: what is read back -/
namespace PX
open PySem PySem.Spec PyProof.Rows L2 LamX HotX L2H TL
theorem compLX_all {α : Type} {g : PyData → Res (List PyData)} {is : List Nat} {fe : Rho → Res PyData} {ρ : Rho} (enc : α → PyData) (as : α → List PyData) (q : α → PyData) : ∀ (xs : List α), (∀ x ∈ xs, g (enc x) = .ok (as x)) → (∀ x ∈ xs, fe (setsD ρ is (as x)) = .ok (q x)) →
    compLX g is cYes fe ρ (xs.map enc) = .ok (xs.map q)
  | [], _, _ => rfl
  | x :: xs, h1, h3 => by
    have ih := compLX_all enc as q xs (fun y hy => h1 y (List.mem_cons_of_mem _ hy)) (fun y hy => h3 y (List.mem_cons_of_mem _ hy))
    rw [List.map_cons]
    unfold compLX
    rw [h1 x List.mem_cons_self]
    show ((Res.ok true).bind fun k => if k = true then (fe (setsD ρ is (as x))).bind fun y => (compLX g is cYes fe ρ (xs.map enc)).bind fun r => .ok (y :: r) else compLX g is cYes fe ρ (xs.map enc)) = _
    rw [Res.bind_ok, if_pos rfl, h3 x List.mem_cons_self, Res.bind_ok, ih]
    rfl
theorem compX_all {α : Type} {src : Rho → Res (List PyData)} {g : PyData → Res (List PyData)} {is own : List Nat} {fe : Rho → Res PyData} {ρ : Rho} (enc : α → PyData) (as : α → List PyData) (q : α → PyData) (xs : List α)
    (h0 : src ρ = .ok (xs.map enc)) (h1 : ∀ x ∈ xs, g (enc x) = .ok (as x)) (h3 : ∀ x ∈ xs, fe (setsD (wipeD ρ own) is (as x)) = .ok (q x)) :
    compX src g is own cYes fe ρ = .ok (.list (xs.map q)) := by
  unfold compX
  rw [h0, Res.bind_ok, compLX_all enc as q xs h1 h3]
  rfl
/-- a joined text, split -/
theorem splitD_join {y : Str} {s : Nat} (ey : tl y = [s]) (hs : s < 128) {ps : List Str} (hne : ps ≠ []) (hf : ∀ p ∈ ps, s ∉ tl p) (hp : ∀ p ∈ ps, Low p) (h1 : ∀ p ∈ ps, p.length ≤ 1000) (hz : (Txt.join y ps).length ≤ 10000) (hn : ps.length ≤ 1000) :
    splitD (Txt.join y ps) (.str y) = .ok (.list (ps.map .str)) := by
  have e : Txt.split (Txt.join y ps) y = ps := split_join (S := []) ey (by rw [← Array.all_toList, show y.cps.toList = [s] from ey]; simp; omega) hne hf
  have ly : y.length = 1 := by rw [len_tl, ey]; rfl
  unfold splitD
  dsimp only
  rw [e, if_pos ⟨by rw [ly]; rfl, by rw [sizeLine_eq]; omega, List.all_eq_true.mpr fun p h => okS_low (hp p h) (Nat.le_trans (h1 p h) (by decide)), by rw [sizeLine_eq]; omega⟩]
theorem comma_free {s : Nat} (h : s < 48 ∨ 57 < s) (h2 : s ≠ 44) (h3 : s ≠ 45) (l : List Nat) : s ∉ tl (numsT l) := by
  unfold numsT
  split
  · rw [show tl ("-" : Str) = [45] from by decide]
    simp [h3]
  · intro hc
    rw [join_eq, tl_join] at hc
    have : ∀ ps : List Str, (∀ p ∈ ps, s ∉ tl p) → s ∉ joinL (tl ",") (ps.map tl) := by
      intro ps
      induction ps with
      | nil => intro _ h; cases h
      | cons a r ih =>
        intro hp h
        cases r with
        | nil => exact hp a List.mem_cons_self h
        | cons b r =>
          have h : s ∈ tl a ++ (tl "," ++ joinL (tl ",") ((b :: r).map tl)) := h
          rw [show tl ("," : Str) = [44] from by decide] at h ih
          simp only [List.mem_append, List.mem_singleton] at h
          rcases h with h | h | h
          · exact hp a List.mem_cons_self h
          · exact h2 h
          · exact ih (fun p hp' => hp p (List.mem_cons_of_mem _ hp')) h
    exact this _ (fun p hp => by
      obtain ⟨n, _, rfl⟩ := List.mem_map.mp hp
      exact numT_free h) hc
theorem eqv_str (x y : Str) : PyData.eqv (.str x) (.str y) = (x == y) := rfl
theorem eqD_txt (x y : Str) : eqD (.str x) (.str y) = .ok (.bool (x == y)) := rfl
theorem neD_txt (x y : Str) : neD (.str x) (.str y) = .ok (.bool (!(x == y))) := rfl
theorem numbers_in_ok {l : List Nat} (hl : ∀ n ∈ l, n ≤ 99) (h6 : l.length ≤ 6) : g_numbers_in [.str (numsT l)] = .ok (eN l) := by
  unfold g_numbers_in F_numbers_in eN
  by_cases e : l = []
  · subst e
    rfl
  · have en : numsT l = Txt.join "," (l.map numT) := by unfold numsT; rw [if_neg e]
    have hz := numsT_len hl h6
    have hne : (numsT l == ("-" : Str)) = false := by
      refine beq_false_of_ne fun q => ?_
      cases l with
      | nil => exact e rfl
      | cons a r =>
        have h1 : numsT (a :: r) = Txt.join "," ((a :: r).map numT) := en
        rw [q, join_eq] at h1
        have h2 := congrArg tl h1
        rw [tl_join, show tl ("-" : Str) = [45] from by decide] at h2
        have hd : ∃ c t, numL a = c :: t := by
          cases q : numL a with
          | nil => exact absurd q (numL_ne a)
          | cons c t => exact ⟨c, t, rfl⟩
        obtain ⟨c, t, hc⟩ := hd
        have hm : c ∈ numL a := by rw [hc]; exact List.mem_cons_self
        have h45 : 45 ∉ numL a := numL_free (by decide)
        have : c = 45 := by
          cases r with
          | nil =>
            have h2 : [45] = tl (numT a) := h2
            rw [tl_numT, hc] at h2
            injection h2 with z _
            exact z.symm
          | cons b r =>
            have h2 : [45] = tl (numT a) ++ (tl "," ++ joinL (tl ",") ((b :: r).map numT |>.map tl)) := h2
            rw [tl_numT, hc] at h2
            injection h2 with z _
            exact z.symm
        exact h45 (this ▸ hm)
    have hsp := splitD_join (y := ",") (s := 44) (by decide) (by decide) (ps := l.map numT) (by simpa using e) (fun p hp => by
      obtain ⟨n, _, rfl⟩ := List.mem_map.mp hp
      exact numT_free (by decide)) (fun p hp => by
      obtain ⟨n, _, rfl⟩ := List.mem_map.mp hp
      exact numT_low n) (fun p hp => by
      obtain ⟨n, hn, rfl⟩ := List.mem_map.mp hp
      exact Nat.le_trans (numT_len (hl n hn)) (by decide)) (by rw [← en]; omega) (by rw [List.length_map]; omega)
    rw [← en, List.map_map] at hsp
    simp only [px, px2, Res.bind_ok, strT_s, neD_txt, hne]
    rw [compX_all (fun n => PyData.str (numT n)) (fun n => [.str (numT n)]) (fun n : Nat => .int (n : Int)) l ?_ (fun _ _ => rfl) fun n hn => by
      simp only [px, px2, Res.bind_ok, number_in_n (hl n hn)]]
    · simp only [px, px2, Res.bind_ok, Bool.not_false, iteR]
    · simp only [px, px2, Res.bind_ok, strT_s, hsp]
      rfl
end PX

/-! k50: what is read back, continued -/
namespace PX
open PySem PySem.Spec PyProof.Rows L2 LamX HotX L2H TL
theorem join_ne {y a : Str} {r : List Str} (h : tl a ≠ []) : (Txt.join y (a :: r) == ("" : Str)) = false := by
  refine beq_false_of_ne fun q => h ?_
  rw [join_eq] at q
  have q := congrArg tl q
  rw [tl_join, show tl ("" : Str) = [] from by decide] at q
  cases r with
  | nil => exact q
  | cons b r =>
    have q : tl a ++ (tl y ++ joinL (tl y) ((b :: r).map tl)) = [] := q
    exact (List.append_eq_nil_iff.mp q).1
theorem parts_in_ok {α : Type} {m : Nat} (xs : List α) (tx : α → Str) (cs : α → List Str) (hn : xs.length ≤ 1000) (hz : (Txt.join " " (xs.map tx)).length ≤ 10000) (h1 : ∀ x ∈ xs, tl (tx x) ≠ [] ∧ Low (tx x) ∧ (tx x).length ≤ 1000 ∧ 32 ∉ tl (tx x))
    (h2 : ∀ x ∈ xs, splitD (tx x) (.str ":") = .ok (.list ((cs x).map .str))) (h3 : ∀ x ∈ xs, (cs x).length = m) : g_parts_in [.str (Txt.join " " (xs.map tx)), .int (m : Int)] = .ok (.list (xs.map fun x => .list ((cs x).map .str))) := by
  have hall : ∀ x ∈ xs, PyData.bool (decide (((cs x).length : Int) = (m : Int))) = .bool true := fun x hx => by rw [h3 x hx]; simp
  unfold g_parts_in F_parts_in
  cases xs with
  | nil =>
    have e : Txt.join " " (([] : List α).map tx) = "" := rfl
    rw [e]
    rfl
  | cons a r =>
    have hne : (Txt.join " " ((a :: r).map tx) == ("" : Str)) = false := join_ne (h1 a List.mem_cons_self).1
    have hsp := splitD_join (y := " ") (s := 32) (by decide) (by decide) (ps := (a :: r).map tx) (by simp) (fun p hp => by
      obtain ⟨x, hx, rfl⟩ := List.mem_map.mp hp
      exact (h1 x hx).2.2.2) (fun p hp => by
      obtain ⟨x, hx, rfl⟩ := List.mem_map.mp hp
      exact (h1 x hx).2.1) (fun p hp => by
      obtain ⟨x, hx, rfl⟩ := List.mem_map.mp hp
      exact (h1 x hx).2.2.1) hz (by rw [List.length_map]; exact hn)
    rw [List.map_map] at hsp
    revert hsp hne hall h1 h2 h3 hz hn
    generalize a :: r = xs
    intro hn hz h1 h2 h3 hall hne hsp
    simp only [px, px2, Res.bind_ok, strT_s, neD_txt, hne]
    rw [compD_all (fun x => PyData.str (tx x)) (fun x => [.str (tx x)]) (fun x => .list ((cs x).map .str)) xs ?_ (fun _ _ => rfl) fun x hx => by
      simp only [px, px2, Res.bind_ok, strT_s, h2 x hx]]
    · simp only [px, px2, Res.bind_ok, Bool.not_false, iteR]
      rw [compD_all (fun x => PyData.list ((cs x).map .str)) (fun x => [.list ((cs x).map .str)]) (fun x => .bool true) xs rfl (fun _ _ => rfl) fun x hx => by
        simp only [px, px2, Res.bind_ok, List.length_map, h3 x hx]]
      have ea : allD [.list (xs.map fun _ => PyData.bool true)] = .ok (.bool true) := by
        rw [allD_b (f := fun _ : α => true)]
        rw [List.all_eq_true.mpr fun _ _ => rfl]
      simp only [Res.bind_ok, ea]
      rfl
    · simp only [px, px2, Res.bind_ok, strT_s, hsp]
      rfl
/-- three texts joined by a sign that none of them has, split -/
theorem split_three {y a b c : Str} {s : Nat} (ey : tl y = [s]) (hs : s < 128) (ha : s ∉ tl a ∧ Low a ∧ a.length ≤ 1000) (hb : s ∉ tl b ∧ Low b ∧ b.length ≤ 1000) (hc : s ∉ tl c ∧ Low c ∧ c.length ≤ 1000) :
    splitD (a ++ y ++ b ++ y ++ c) (.str y) = .ok (.list [.str a, .str b, .str c]) := by
  have ly : y.length = 1 := by rw [len_tl, ey]; rfl
  have hm : ∀ p ∈ [a, b, c], s ∉ tl p ∧ Low p ∧ p.length ≤ 1000 := fun p hp => by
    rcases List.mem_cons.mp hp with rfl | hp
    · exact ha
    rcases List.mem_cons.mp hp with rfl | hp
    · exact hb
    rcases List.mem_cons.mp hp with rfl | hp
    · exact hc
    · cases hp
  have := splitD_join (y := y) ey hs (ps := [a, b, c]) (by simp) (fun p hp => (hm p hp).1) (fun p hp => (hm p hp).2.1) (fun p hp => (hm p hp).2.2) (by rw [join3, len_app, len_app, len_app, len_app]; omega) (by simp)
  rw [join3] at this
  exact this
theorem split_two {y a b : Str} {s : Nat} (ey : tl y = [s]) (hs : s < 128) (ha : s ∉ tl a ∧ Low a ∧ a.length ≤ 1000) (hb : s ∉ tl b ∧ Low b ∧ b.length ≤ 1000) :
    splitD (a ++ y ++ b) (.str y) = .ok (.list [.str a, .str b]) := by
  have ly : y.length = 1 := by rw [len_tl, ey]; rfl
  have hm : ∀ p ∈ [a, b], s ∉ tl p ∧ Low p ∧ p.length ≤ 1000 := fun p hp => by
    rcases List.mem_cons.mp hp with rfl | hp
    · exact ha
    rcases List.mem_cons.mp hp with rfl | hp
    · exact hb
    · cases hp
  have j2 : Txt.join y [a, b] = a ++ y ++ b := by rw [join_eq]; rfl
  have := splitD_join (y := y) ey hs (ps := [a, b]) (by simp) (fun p hp => (hm p hp).1) (fun p hp => (hm p hp).2.1) (fun p hp => (hm p hp).2.2) (by rw [j2, len_app, len_app]; omega) (by simp)
  rw [j2] at this
  exact this
end PX

/-! k50: a belt's text is read back -/
namespace PX
open PySem PySem.Spec PyProof.Rows L2 LamX HotX L2H TL
theorem free_app {s : Nat} {x y : Str} (hx : s ∉ tl x) (hy : s ∉ tl y) : s ∉ tl (x ++ y) := by
  rw [tl_append]
  exact fun h => (List.mem_append.mp h).elim hx hy
theorem free_join {s : Nat} {y : Str} (hy : s ∉ tl y) : ∀ {ps : List Str}, (∀ p ∈ ps, s ∉ tl p) → s ∉ tl (Txt.join y ps)
  | [], _ => fun c => by cases c
  | [p], h => h p List.mem_cons_self
  | p :: q :: r, h => by
    rw [join_eq]
    have ih := free_join hy (ps := q :: r) fun z hz => h z (List.mem_cons_of_mem _ hz)
    rw [join_eq] at ih
    exact free_app (free_app (h p List.mem_cons_self) hy) ih
theorem numZ_free {i : Int} {s : Nat} (h : s < 48 ∨ 57 < s) : s ∉ tl (numZ i) := numT_free h
theorem spotT_free {s : Nat} (h : s < 48 ∨ 57 < s) (h2 : s ≠ 44) (h3 : s ≠ 45) (h4 : s ≠ 58) (p : Spt) : s ∉ tl (spotT p) := by
  have hc : s ∉ tl (":" : Str) := by
    rw [show tl (":" : Str) = [58] from by decide]
    simp [h4]
  exact free_app (free_app (free_app (free_app (numZ_free h) hc) (numZ_free h)) hc) (comma_free h h2 h3 _)
theorem kickT_free {s : Nat} (h : s < 48 ∨ 57 < s) (h4 : s ≠ 58) (p : Int × Int) : s ∉ tl (kickT p) := by
  have hc : s ∉ tl (":" : Str) := by
    rw [show tl (":" : Str) = [58] from by decide]
    simp [h4]
  exact free_app (free_app (numZ_free h) hc) (numZ_free h)
theorem tl_ne_app {x y : Str} (h : tl x ≠ []) : tl (x ++ y) ≠ [] := by
  rw [tl_append]
  exact fun e => h (List.append_eq_nil_iff.mp e).1
theorem numZ_ne (i : Int) : tl (numZ i) ≠ [] := by
  unfold numZ
  rw [tl_numT]
  exact numL_ne _
theorem number_in_z {i : Int} (h : 0 ≤ i ∧ i ≤ 99) : g_number_in [.str (numZ i)] = .ok (.int i) := by
  obtain ⟨n, rfl⟩ := Int.eq_ofNat_of_zero_le h.1
  exact number_in_n (by omega)
section
variable {b : Bel} (hb : b.Ok)
include hb
theorem spot_split {s : Spt} (hs : s ∈ b.ss) : splitD (spotT s) (.str ":") = .ok (.list [.str (numZ s.1), .str (numZ s.2.1), .str (numsT s.2.2)]) := by
  have h1 := numZ_len (hb.sp s hs).1
  have h2 := numZ_len (i := s.2.1) (by have := (hb.sp s hs).2.1; omega)
  have h3 := numsT_len (ris_le hb hs).1 (ris_le hb hs).2
  exact split_three (s := 58) (by decide) (by decide) ⟨numZ_free (by decide), numT_low _, by omega⟩ ⟨numZ_free (by decide), numT_low _, by omega⟩ ⟨comma_free (by decide) (by decide) (by decide) _, numsT_low _, by omega⟩
theorem kick_split {k : Int × Int} (hk : k ∈ b.ks) : splitD (kickT k) (.str ":") = .ok (.list [.str (numZ k.1), .str (numZ k.2)]) := by
  have h1 := numZ_len (hb.kp k hk).1
  have h2 := numZ_len (i := k.2) (by have := (hb.kp k hk).2; omega)
  exact split_two (s := 58) (by decide) (by decide) ⟨numZ_free (by decide), numT_low _, by omega⟩ ⟨numZ_free (by decide), numT_low _, by omega⟩
theorem parts_spots : g_parts_in [.str (Txt.join " " (b.ss.map spotT)), .int 3] = .ok (.list (b.ss.map fun s => .list [.str (numZ s.1), .str (numZ s.2.1), .str (numsT s.2.2)])) :=
  parts_in_ok (m := 3) b.ss spotT (fun s => [numZ s.1, numZ s.2.1, numsT s.2.2]) (by have := hb.s8; omega) (by have := spots_len hb; omega)
    (fun s hs => ⟨tl_ne_app (tl_ne_app (tl_ne_app (tl_ne_app (numZ_ne _)))), spotT_low s, by have := spotT_len hb hs; omega, spotT_free (by decide) (by decide) (by decide) (by decide) s⟩) (fun s hs => spot_split hb hs) fun _ _ => rfl
theorem parts_kicks : g_parts_in [.str (Txt.join " " (b.ks.map kickT)), .int 2] = .ok (.list (b.ks.map fun s => .list [.str (numZ s.1), .str (numZ s.2)])) :=
  parts_in_ok (m := 2) b.ks kickT (fun s => [numZ s.1, numZ s.2]) (by have := hb.k3; omega) (by have := kicks_len hb; omega)
    (fun s hs => ⟨tl_ne_app (tl_ne_app (numZ_ne _)), kickT_low s, by have := kickT_len hb hs; omega, kickT_free (by decide) (by decide) s⟩) (fun s hs => kick_split hb hs) fun _ _ => rfl
theorem belt_split : splitD (beltT b) (.str "|") = .ok (.list [.str (numsT (toNs b.fs)), .str (Txt.join " " (b.ss.map spotT)), .str (Txt.join " " (b.ks.map kickT))]) := by
  have hf := faults_len hb
  have hs := spots_len hb
  have hk := kicks_len hb
  exact split_three (s := 124) (by decide) (by decide) ⟨comma_free (by decide) (by decide) (by decide) _, numsT_low _, by omega⟩
    ⟨free_join (by decide) fun p hp => by
      obtain ⟨n, _, rfl⟩ := List.mem_map.mp hp
      exact spotT_free (by decide) (by decide) (by decide) (by decide) n, low_spots b, by omega⟩
    ⟨free_join (by decide) fun p hp => by
      obtain ⟨n, _, rfl⟩ := List.mem_map.mp hp
      exact kickT_free (by decide) (by decide) n, low_kicks b, by omega⟩
omit hb in
theorem rd3 {a b c : PyData} : lenD [.list [a, b, c]] = .ok (.int 3) ∧ neD (.int 3) (.int 3) = .ok (.bool false) ∧ idxD (.list [a, b, c]) (.int 0) = .ok a ∧ idxD (.list [a, b, c]) (.int 1) = .ok b ∧ idxD (.list [a, b, c]) (.int 2) = .ok c := ⟨rfl, rfl, rfl, rfl, rfl⟩
theorem read_ok : g_read [.str (beltT b)] = .ok (eB b) := by
  have h6 : (toNs b.fs).length ≤ 6 := by unfold toNs; rw [List.length_map]; exact hb.f6
  have hn := numbers_in_ok (toNs_le hb.fp) h6
  rw [← eZ_eN hb.fp] at hn
  unfold g_read F_read
  simp only [px, px2, Res.bind_ok, strT_s, belt_split hb, rd3, parts_spots hb]
  rw [compX_all (fun s : Spt => PyData.list [.str (numZ s.1), .str (numZ s.2.1), .str (numsT s.2.2)]) (fun s => [.str (numZ s.1), .str (numZ s.2.1), .str (numsT s.2.2)]) eS b.ss ?_ (fun _ _ => rfl) fun s hs => by
    simp only [px, px2, Res.bind_ok, number_in_z (hb.sp s hs).1, number_in_z (i := s.2.1) (by have := (hb.sp s hs).2.1; omega), numbers_in_ok (ris_le hb hs).1 (ris_le hb hs).2]
    rfl]
  · simp only [px, px2, Res.bind_ok, strT_s, rd3, parts_kicks hb]
    rw [compX_all (fun k : Int × Int => PyData.list [.str (numZ k.1), .str (numZ k.2)]) (fun k => [.str (numZ k.1), .str (numZ k.2)]) eK b.ks ?_ (fun _ _ => rfl) fun k hk => by
      simp only [px, px2, Res.bind_ok, number_in_z (hb.kp k hk).1, number_in_z (i := k.2) (by have := (hb.kp k hk).2; omega)]
      rfl]
    · simp only [px, px2, Res.bind_ok, rd3, hn]
      have h1 := is_belt_ok hb
      have h2 := belt_text_ok hb
      unfold eB at h1 h2
      simp only [px, px2, Res.bind_ok, h1, h2, neD_txt, beq_self_eq_true]
      rfl
    · simp only [px, px2, Res.bind_ok, rd3, parts_kicks hb]
  · simp only [px, px2, Res.bind_ok, rd3, parts_spots hb]
end
end PX

/-! k50: any text read -/
namespace PX
open PySem PySem.Spec PyProof.Rows L2 LamX HotX L2H TL
theorem spl_any (S : List Nat) : ∀ (l : List Nat) (k : Nat) (acc : List Nat), (∀ p ∈ spl S k acc l, (∀ c ∈ p, c ∈ acc ∨ c ∈ l) ∧ p.length ≤ acc.length + l.length) ∧ (spl S k acc l).length ≤ l.length + 1
  | [], k, acc => by
    rw [spl_nil]
    refine ⟨fun p hp => ?_, Nat.le_refl _⟩
    rw [List.mem_singleton.mp hp]
    exact ⟨fun c hc => .inl hc, Nat.le_refl _⟩
  | c :: r, k + 1, acc => by
    show (∀ p ∈ spl S k acc r, _) ∧ (spl S k acc r).length ≤ _
    obtain ⟨h1, h2⟩ := spl_any S r k acc
    refine ⟨fun p hp => ⟨fun x hx => ((h1 p hp).1 x hx).imp id (List.mem_cons_of_mem _), ?_⟩, ?_⟩
    · have := (h1 p hp).2
      rw [List.length_cons]
      omega
    · rw [List.length_cons]
      omega
  | c :: r, 0, acc => by
    cases e : pre S (c :: r) with
    | true =>
      rw [spl_hit e]
      obtain ⟨h1, h2⟩ := spl_any S r (S.length - 1) []
      refine ⟨fun p hp => ?_, ?_⟩
      · rcases List.mem_cons.mp hp with rfl | hp
        · exact ⟨fun x hx => .inl hx, Nat.le_add_right _ _⟩
        · refine ⟨fun x hx => ?_, ?_⟩
          · rcases (h1 p hp).1 x hx with z | z
            · cases z
            · exact .inr (List.mem_cons_of_mem _ z)
          · have := (h1 p hp).2
            rw [List.length_nil] at this
            rw [List.length_cons]
            omega
      · rw [List.length_cons, List.length_cons]
        omega
    | false =>
      rw [spl_miss e]
      obtain ⟨h1, h2⟩ := spl_any S r 0 (acc ++ [c])
      refine ⟨fun p hp => ⟨fun x hx => ?_, ?_⟩, ?_⟩
      · rcases (h1 p hp).1 x hx with z | z
        · rcases List.mem_append.mp z with z | z
          · exact .inl z
          · rw [List.mem_singleton.mp z]; exact .inr List.mem_cons_self
        · exact .inr (List.mem_cons_of_mem _ z)
      · have := (h1 p hp).2
        rw [List.length_append, List.length_singleton] at this
        rw [List.length_cons]
        omega
      · rw [List.length_cons]
        omega
/-- a low text, split at a sign -/
theorem splitD_any {t y : Str} {s : Nat} (ey : tl y = [s]) (hs : s < 128) (ht : Low t) (hz : t.length ≤ 1000) : ∃ ps : List Str, splitD t (.str y) = .ok (.list (ps.map .str)) ∧ ps.length ≤ 1001 ∧ ∀ p ∈ ps, Low p ∧ p.length ≤ 1000 := by
  have ly : y.length = 1 := by rw [len_tl, ey]; rfl
  have e := split_spl t y (by rw [ey]; simp) (kind_ok (by rw [← Array.all_toList, show y.cps.toList = [s] from ey]; simp; omega))
  obtain ⟨h1, h2⟩ := spl_any (tl y) (tl t) 0 []
  rw [← e] at h1 h2
  rw [len_tl] at hz
  have hp : ∀ p ∈ Txt.split t y, Low p ∧ p.length ≤ 1000 := fun p hp => by
    obtain ⟨q1, q2⟩ := h1 (tl p) (List.mem_map_of_mem hp)
    refine ⟨fun c hc => ?_, ?_⟩
    · rcases q1 c hc with z | z
      · cases z
      · exact ht c z
    · rw [len_tl]
      rw [List.length_nil] at q2
      omega
  rw [List.length_map] at h2
  refine ⟨Txt.split t y, ?_, by omega, hp⟩
  unfold splitD
  dsimp only
  rw [if_pos ⟨by rw [ly]; rfl, by rw [sizeLine_eq, len_tl]; omega, List.all_eq_true.mpr fun p h => okS_low (hp p h).1 (Nat.le_trans (hp p h).2 (by decide)), by rw [sizeLine_eq]; omega⟩]
/-! ### a comprehension that may let an exception out -/
theorem compLX_any {α : Type} {g : PyData → Res (List PyData)} {is : List Nat} {fe : Rho → Res PyData} {ρ : Rho} {ex : Str} {R : PyData → Prop} (enc : α → PyData) (as : α → List PyData) : ∀ (xs : List α), (∀ x ∈ xs, g (enc x) = .ok (as x)) → (∀ x ∈ xs, fe (setsD ρ is (as x)) = .exc ex ∨ ∃ d, R d ∧ fe (setsD ρ is (as x)) = .ok d) →
    compLX g is cYes fe ρ (xs.map enc) = .exc ex ∨ ∃ ds, ds.length = xs.length ∧ (∀ d ∈ ds, R d) ∧ compLX g is cYes fe ρ (xs.map enc) = .ok ds
  | [], _, _ => .inr ⟨[], rfl, (fun _ h => absurd h List.not_mem_nil), rfl⟩
  | x :: xs, h1, h3 => by
    have ih := compLX_any (R := R) (ex := ex) enc as xs (fun y hy => h1 y (List.mem_cons_of_mem _ hy)) (fun y hy => h3 y (List.mem_cons_of_mem _ hy))
    have e : compLX g is cYes fe ρ ((x :: xs).map enc) = (fe (setsD ρ is (as x))).bind fun y => (compLX g is cYes fe ρ (xs.map enc)).bind fun r => .ok (y :: r) := by
      rw [List.map_cons]
      rw [compLX.eq_2, h1 x List.mem_cons_self]
      rfl
    rw [e]
    rcases h3 x List.mem_cons_self with z | ⟨d, hd, z⟩
    · rw [z]; exact .inl rfl
    · rw [z]
      rcases ih with i | ⟨ds, l, hr, i⟩
      · rw [i]; exact .inl rfl
      · rw [i]
        refine .inr ⟨d :: ds, by rw [List.length_cons, List.length_cons, l], fun y hy => ?_, rfl⟩
        rcases List.mem_cons.mp hy with rfl | hy
        · exact hd
        · exact hr y hy
theorem compX_any {α : Type} {src : Rho → Res (List PyData)} {g : PyData → Res (List PyData)} {is own : List Nat} {fe : Rho → Res PyData} {ρ : Rho} {ex : Str} {R : PyData → Prop} (enc : α → PyData) (as : α → List PyData) (xs : List α)
    (h0 : src ρ = .ok (xs.map enc)) (h1 : ∀ x ∈ xs, g (enc x) = .ok (as x)) (h3 : ∀ x ∈ xs, fe (setsD (wipeD ρ own) is (as x)) = .exc ex ∨ ∃ d, R d ∧ fe (setsD (wipeD ρ own) is (as x)) = .ok d) :
    compX src g is own cYes fe ρ = .exc ex ∨ ∃ ds, ds.length = xs.length ∧ (∀ d ∈ ds, R d) ∧ compX src g is own cYes fe ρ = .ok (.list ds) := by
  unfold compX
  rw [h0, Res.bind_ok]
  rcases compLX_any (R := R) (ex := ex) enc as xs h1 h3 with i | ⟨ds, l, hr, i⟩
  · rw [i]; exact .inl rfl
  · rw [i]; exact .inr ⟨ds, l, hr, rfl⟩
end PX

/-! k50: any number read -/
namespace PX
open PySem PySem.Spec PyProof.Rows L2 LamX HotX L2H TL
def numOrBad : Res PyData → Bool
  | .exc c => c == "BadText"
  | .ok (.int n) => decide (0 ≤ n) && decide (n ≤ 99)
  | _ => false
theorem num1_all : ((List.range 128).all fun c => numOrBad (g_number_in [.str ⟨#[c]⟩])) = true := by decide +kernel
theorem fig2_all : ((List.range 10).all fun c => (List.range 10).all fun d => numOrBad (g_number_in [.str ⟨#[48 + c, 48 + d]⟩])) = true := by decide +kernel
end PX

/-! k50: any number read, continued -/
namespace PX
open PySem PySem.Spec PyProof.Rows L2 LamX HotX L2H TL
theorem numOrBad_or {r : Res PyData} (h : numOrBad r = true) : r = .exc "BadText" ∨ ∃ n : Int, (0 ≤ n ∧ n ≤ 99) ∧ r = .ok (.int n) := by
  unfold numOrBad at h
  split at h
  · exact .inl (by rw [eq_of_beq h])
  · rename_i n
    rw [Bool.and_eq_true, decide_eq_true_eq, decide_eq_true_eq] at h
    exact .inr ⟨n, h, rfl⟩
  · cases h
theorem str_1 {p : Str} {c : Nat} (h : tl p = [c]) : p = ⟨#[c]⟩ := ext_tl h
theorem str_2 {p : Str} {c d : Nat} (h : tl p = [c, d]) : p = ⟨#[c, d]⟩ := ext_tl h
theorem itS_low {p : Str} (hl : Low p) (hz : p.length ≤ 1000) : itS (.str p) = .ok ((tl p).map fun c => .str ⟨#[c]⟩) := by
  rw [len_tl] at hz
  have h2 : ((tl p).all fun c => PyData.strOk ⟨#[c]⟩) = true := List.all_eq_true.mpr fun c hc => by
    have := hl c hc
    show (#[c] : Array Nat).all (· < 0x110000) = true
    simp
    omega
  exact if_pos ⟨by show (tl p).length ≤ _; omega, h2⟩
theorem number_in_bad {p : Str} (hl : Low p) (hz : p.length ≤ 1000) (h : ∃ c ∈ tl p, c ∉ tl ("0123456789" : Str)) : g_number_in [.str p] = .exc "BadText" := by
  unfold g_number_in F_number_in
  simp only [px, px2, Res.bind_ok]
  rw [compD_all (fun c : Nat => PyData.str ⟨#[c]⟩) (fun c => [.str ⟨#[c]⟩]) (fun c => .bool (decide (c ∈ tl ("0123456789" : Str)))) (tl p) ?_ (fun _ _ => rfl) fun c hc => by
    simp only [px, px2, Res.bind_ok]
    rfl]
  · have ha : (tl p).all (fun c => decide (c ∈ tl ("0123456789" : Str))) = false := by
      obtain ⟨c, h1, h2⟩ := h
      exact List.all_eq_false.mpr ⟨c, h1, by simpa using h2⟩
    have hle : lenD [.str p] = .ok (.int (p.length : Int)) := rfl
    simp only [hle, allD_b, ha, px, px2, Res.bind_ok, Bool.not_false, Bool.or_true, if_true]
    rfl
  · simp only [px, px2, Res.bind_ok, itS_low hl hz]
theorem number_in_far {p : Str} (hz : p.length < 1 ∨ 2 < p.length) (hl : Low p) (h1 : p.length ≤ 1000) : g_number_in [.str p] = .exc "BadText" := by
  unfold g_number_in F_number_in
  have hle : lenD [.str p] = .ok (.int (p.length : Int)) := rfl
  have e : (decide ((1 : Int) ≤ (p.length : Int)) && decide ((p.length : Int) ≤ 2)) = false := by
    rw [Bool.and_eq_false_iff, decide_eq_false_iff_not, decide_eq_false_iff_not]
    omega
  simp only [hle, px, px2, Res.bind_ok, e, Bool.not_false, orT]
  rfl
theorem fig_all : ((List.range 128).all fun c => decide (c ∉ tl ("0123456789" : Str)) || decide (48 ≤ c ∧ c ≤ 57)) = true := by decide +kernel
theorem fig_is {c : Nat} (h : c < 128) (h2 : c ∈ tl ("0123456789" : Str)) : ∃ k, k < 10 ∧ c = 48 + k := by
  have := List.all_eq_true.mp fig_all c (List.mem_range.mpr h)
  rw [Bool.or_eq_true, decide_eq_true_eq, decide_eq_true_eq] at this
  rcases this with z | z
  · exact absurd h2 z
  · exact ⟨c - 48, by omega, by omega⟩
theorem number_in_any {p : Str} (hl : Low p) (hz : p.length ≤ 1000) : g_number_in [.str p] = .exc "BadText" ∨ ∃ n : Int, (0 ≤ n ∧ n ≤ 99) ∧ g_number_in [.str p] = .ok (.int n) := by
  by_cases hb : ∃ c ∈ tl p, c ∉ tl ("0123456789" : Str)
  · exact .inl (number_in_bad hl hz hb)
  by_cases hf : p.length < 1 ∨ 2 < p.length
  · exact .inl (number_in_far hf hl hz)
  refine numOrBad_or ?_
  have hfig : ∀ c ∈ tl p, c ∈ tl ("0123456789" : Str) := fun c hc => Classical.byContradiction fun z => hb ⟨c, hc, z⟩
  rw [len_tl] at hf
  match e : tl p with
  | [] => rw [e] at hf; exact absurd (Or.inl (by decide)) hf
  | [c] =>
    rw [str_1 e]
    exact List.all_eq_true.mp num1_all c (List.mem_range.mpr (hl c (by rw [e]; simp)))
  | [c, d] =>
    obtain ⟨i, hi, rfl⟩ := fig_is (hl c (by rw [e]; simp)) (hfig c (by rw [e]; simp))
    obtain ⟨j, hj, rfl⟩ := fig_is (hl d (by rw [e]; simp)) (hfig d (by rw [e]; simp))
    rw [str_2 e]
    exact List.all_eq_true.mp (List.all_eq_true.mp fig2_all i (List.mem_range.mpr hi)) j (List.mem_range.mpr hj)
  | _ :: _ :: _ :: r => rw [e] at hf; exact absurd (Or.inr (by simp)) hf
end PX

/-! k50: any text read, continued -/
namespace PX
open PySem PySem.Spec PyProof.Rows L2 LamX HotX L2H TL
def IsN (d : PyData) : Prop := ∃ n : Int, (0 ≤ n ∧ n ≤ 99) ∧ d = .int n
theorem numbers_in_any {p : Str} (hl : Low p) (hz : p.length ≤ 1000) : g_numbers_in [.str p] = .exc "BadText" ∨ ∃ ds, ds.length ≤ 1001 ∧ (∀ d ∈ ds, IsN d) ∧ g_numbers_in [.str p] = .ok (.tuple ds) := by
  obtain ⟨ps, e, hn, hp⟩ := splitD_any (y := ",") (s := 44) (by decide) (by decide) hl hz
  unfold g_numbers_in F_numbers_in
  simp only [px, px2, Res.bind_ok, strT_s, neD_txt]
  cases q : p == ("-" : Str) with
  | true =>
    refine .inr ⟨[], Nat.zero_le _, (fun _ h => absurd h List.not_mem_nil), ?_⟩
    simp only [q, Bool.not_true, px, px2, Res.bind_ok, iteR]
    rfl
  | false =>
    simp only [q, Bool.not_false, px, px2, Res.bind_ok, iteR, if_true]
    generalize hc : compX _ _ _ _ _ _ _ = r
    have hr : r = .exc "BadText" ∨ ∃ ds, ds.length = ps.length ∧ (∀ d ∈ ds, IsN d) ∧ r = .ok (.list ds) := by
      rw [← hc]
      refine compX_any (fun p : Str => PyData.str p) (fun p => [.str p]) ps ?_ (fun _ _ => rfl) fun x hx => ?_
      · simp only [px, px2, Res.bind_ok, strT_s, e]
      · simp only [px, px2, Res.bind_ok]
        rcases number_in_any (hp x hx).1 (hp x hx).2 with z | ⟨n, hn, z⟩
        · exact .inl z
        · exact .inr ⟨_, ⟨n, hn, rfl⟩, z⟩
    rcases hr with rfl | ⟨ds, hl, hd, rfl⟩
    · exact .inl rfl
    · exact .inr ⟨ds, by omega, hd, rfl⟩
end PX

/-! k50: any text read: parts_in -/
namespace PX
open PySem PySem.Spec PyProof.Rows L2 LamX HotX L2H TL
/-- the parts of a text, low and not long -/
theorem splits_any {ps : List Str} (hp : ∀ p ∈ ps, Low p ∧ p.length ≤ 1000) : ∃ pss : List (List Str), pss.length = ps.length ∧ (∀ l ∈ pss, ∀ p ∈ l, Low p ∧ p.length ≤ 1000) ∧
    ∃ f : Str → List Str, pss = ps.map f ∧ ∀ p ∈ ps, splitD p (.str ":") = .ok (.list ((f p).map .str)) := by
  let f : Str → List Str := fun p => Txt.split p ":"
  have key : ∀ p ∈ ps, splitD p (.str ":") = .ok (.list ((f p).map .str)) ∧ ∀ q ∈ f p, Low q ∧ q.length ≤ 1000 := fun p h => by
    obtain ⟨l, e, _, hl⟩ := splitD_any (y := ":") (s := 58) (by decide) (by decide) (hp p h).1 (hp p h).2
    have e2 : l = f p := by
      have e3 := e
      unfold splitD at e3
      dsimp only at e3
      split at e3
      · injection e3 with z
        injection z with z
        have : ∀ {a b : List Str}, a.map PyData.str = b.map PyData.str → a = b := by
          intro a
          induction a with
          | nil => intro b h; cases b with
            | nil => rfl
            | cons x y => cases h
          | cons x y ih => intro b h; cases b with
            | nil => cases h
            | cons u v =>
              injection h with h1 h2
              injection h1 with h1
              rw [h1, ih h2]
        exact (this z).symm
      · cases e3
    rw [e2] at e hl
    exact ⟨e, hl⟩
  refine ⟨ps.map f, List.length_map _, fun l hl p hq => ?_, f, rfl, fun p h => (key p h).1⟩
  obtain ⟨x, hx, rfl⟩ := List.mem_map.mp hl
  exact (key x hx).2 p hq
theorem parts_in_any {t : Str} {m : Nat} (hl : Low t) (hz : t.length ≤ 1000) : g_parts_in [.str t, .int (m : Int)] = .exc "BadText" ∨
    ∃ pss : List (List Str), pss.length ≤ 1001 ∧ (∀ l ∈ pss, l.length = m ∧ ∀ p ∈ l, Low p ∧ p.length ≤ 1000) ∧ g_parts_in [.str t, .int (m : Int)] = .ok (.list (pss.map fun l => .list (l.map .str))) := by
  obtain ⟨ps, e, hn, hp⟩ := splitD_any (y := " ") (s := 32) (by decide) (by decide) hl hz
  obtain ⟨pss, h1, h2, f, h3, h4⟩ := splits_any hp
  unfold g_parts_in F_parts_in
  simp only [px, px2, Res.bind_ok, strT_s, neD_txt]
  cases q : t == ("" : Str) with
  | true =>
    refine .inr ⟨[], Nat.zero_le _, (fun _ h => absurd h List.not_mem_nil), ?_⟩
    rfl
  | false =>
    rw [compD_all (fun p : Str => PyData.str p) (fun p => [.str p]) (fun p => .list ((f p).map .str)) ps ?_ (fun _ _ => rfl) fun p hx => by
      simp only [px, px2, Res.bind_ok, strT_s, h4 p hx]]
    · simp only [px, px2, Res.bind_ok, Bool.not_false, if_true, iteR]
      rw [compD_all (fun p : Str => PyData.list ((f p).map .str)) (fun p => [.list ((f p).map .str)]) (fun p => .bool (decide (((f p).length : Int) = (m : Int)))) ps rfl (fun _ _ => rfl) fun p hx => by
        simp only [px, px2, Res.bind_ok, List.length_map]]
      simp only [Res.bind_ok, allD_b]
      cases ha : ps.all fun p => decide (((f p).length : Int) = (m : Int)) with
      | false => exact .inl rfl
      | true =>
        refine .inr ⟨pss, by omega, fun l hl => ⟨?_, h2 l hl⟩, ?_⟩
        · rw [h3] at hl
          obtain ⟨x, hx, rfl⟩ := List.mem_map.mp hl
          have := of_decide_eq_true (List.all_eq_true.mp ha x hx)
          omega
        · rw [h3, List.map_map]
          rfl
    · simp only [px, px2, Res.bind_ok, strT_s, e]
end PX

/-! k50: what is a belt, of any data, is one of ours; any text read -/
namespace PX
open PySem PySem.Spec PyProof.Rows L2 LamX HotX L2H TL
theorem upBM_cons {a b : Int} {r : List Int} : upB (a :: b :: r) = (decide (a < b) && upB (b :: r)) := rfl
theorem upBM_pw : ∀ {l : List Int}, upB l = true → l.Pairwise (· < ·)
  | [], _ => List.Pairwise.nil
  | [a], _ => List.pairwise_singleton _ _
  | a :: b :: r, h => by
    rw [upBM_cons, Bool.and_eq_true, decide_eq_true_eq] at h
    have h2 := upBM_pw h.2
    rw [List.pairwise_cons (a := a)]
    refine ⟨fun x hx => ?_, h2⟩
    rcases List.mem_cons.mp hx with e | hx
    · rw [e]; exact h.1
    · have := (List.pairwise_cons.mp h2).1 x hx
      omega
theorem isCnt_int {d : PyData} {lo hi : Int} (h : isCnt d lo hi = true) : ∃ n : Int, d = .int n ∧ lo ≤ n ∧ n ≤ hi := by
  cases d with
  | int n =>
    have h : (decide (lo ≤ n) && decide (n ≤ hi)) = true := h
    rw [Bool.and_eq_true, decide_eq_true_eq, decide_eq_true_eq] at h
    exact ⟨n, rfl, h⟩
  | _ => exact absurd h (by simp [isCnt])
theorem list_enc {α : Type} {e : α → PyData} {P : α → Prop} : ∀ {l : List PyData}, (∀ x ∈ l, ∃ s, x = e s ∧ P s) → ∃ ss : List α, l = ss.map e ∧ ∀ s ∈ ss, P s
  | [], _ => ⟨[], rfl, fun _ h => absurd h List.not_mem_nil⟩
  | x :: l, h => by
    obtain ⟨s, hs, ps⟩ := h x List.mem_cons_self
    obtain ⟨ss, hss, pss⟩ := list_enc (l := l) fun y hy => h y (List.mem_cons_of_mem _ hy)
    refine ⟨s :: ss, by rw [List.map_cons, hs, ← hss], fun y hy => ?_⟩
    rcases List.mem_cons.mp hy with rfl | hy
    · exact ps
    · exact pss y hy
theorem risB_is {d : PyData} {m : Nat} (h : risB d (m : Int) = true) : ∃ l : List Nat, d = eN l ∧ Ris l m := by
  cases d with
  | tuple ds =>
    have h : ((ds.all fun x => isCnt x 0 ((m : Int) - 1)) && upB (ds.map toInt)) = true := h
    rw [Bool.and_eq_true, List.all_eq_true] at h
    obtain ⟨l, e, hl⟩ := list_enc (e := fun n : Nat => PyData.int (n : Int)) (P := fun n => n < m) (l := ds) fun x hx => by
      obtain ⟨n, e, h1, h2⟩ := isCnt_int (h.1 x hx)
      refine ⟨n.toNat, ?_, by omega⟩
      rw [e, Int.toNat_of_nonneg h1]
    refine ⟨l, by rw [e]; rfl, hl, ?_⟩
    have h2 := upBM_pw h.2
    rw [e, List.map_map, List.pairwise_map] at h2
    refine h2.imp fun {a b} q => ?_
    have q : (a : Int) < (b : Int) := q
    omega
  | _ => exact absurd h (by simp [risB])
theorem spotB_is {d : PyData} {m : Nat} (h : spotB d (m : Int) = true) : ∃ s : Spt, d = eS s ∧ ((0 ≤ s.1 ∧ s.1 ≤ 99) ∧ (1 ≤ s.2.1 ∧ s.2.1 ≤ 20) ∧ Ris s.2.2 m) := by
  unfold spotB at h
  split at h
  · rename_i a b c
    rw [Bool.and_eq_true, Bool.and_eq_true] at h
    obtain ⟨n, rfl, hn⟩ := isCnt_int h.1
    obtain ⟨k, rfl, hk⟩ := isCnt_int h.2.1
    obtain ⟨l, rfl, hl⟩ := risB_is h.2.2
    exact ⟨(n, k, l), rfl, hn, hk, hl⟩
  · cases h
theorem kickB_is {d : PyData} (h : kickB d = true) : ∃ k : Int × Int, d = eK k ∧ ((0 ≤ k.1 ∧ k.1 ≤ 99) ∧ 0 ≤ k.2 ∧ k.2 ≤ 20) := by
  unfold kickB at h
  split at h
  · rename_i a b
    rw [Bool.and_eq_true] at h
    obtain ⟨n, rfl, hn⟩ := isCnt_int h.1
    obtain ⟨k, rfl, hk⟩ := isCnt_int h.2
    exact ⟨(n, k), rfl, hn, hk⟩
  · cases h
theorem beltB_is {d : PyData} (h : beltB d = true) : ∃ b : Bel, b.Ok ∧ d = eB b := by
  unfold beltB at h
  split at h
  · rename_i fs ss ks
    simp only [Bool.and_eq_true, decide_eq_true_eq, List.all_eq_true] at h
    obtain ⟨⟨h1, h6⟩, h8, h3, hf, hs, hk⟩ := h
    obtain ⟨f, rfl, pf⟩ := list_enc (e := fun n : Int => PyData.int n) (P := fun p => 0 ≤ p ∧ p ≤ 99) fun x hx => isCnt_int (hf x hx)
    rw [List.length_map] at h1 h6 hs
    obtain ⟨s, rfl, ps⟩ := list_enc (e := eS) fun x hx => spotB_is (hs x hx)
    obtain ⟨k, rfl, pk⟩ := list_enc (e := eK) fun x hx => kickB_is (hk x hx)
    rw [List.length_map] at h8 h3
    exact ⟨⟨f, s, k⟩, ⟨h1, h6, h8, h3, pf, ps, pk⟩, rfl⟩
  · cases h
theorem len3T {l : List Str} (h : l.length = 3) : ∃ a b c, l = [a, b, c] := by
  rcases l with _ | ⟨a, _ | ⟨b, _ | ⟨c, _ | ⟨d, r⟩⟩⟩⟩
  · cases h
  · cases h
  · cases h
  · exact ⟨a, b, c, rfl⟩
  · simp at h
theorem len2T {l : List Str} (h : l.length = 2) : ∃ a b, l = [a, b] := by
  rcases l with _ | ⟨a, _ | ⟨b, _ | ⟨c, r⟩⟩⟩
  · cases h
  · cases h
  · exact ⟨a, b, rfl⟩
  · simp at h
theorem compX_any2 {α : Type} {src : Rho → Res (List PyData)} {g : PyData → Res (List PyData)} {is own : List Nat} {fe : Rho → Res PyData} {ρ : Rho} {ex : Str} (enc : α → PyData) (as : α → List PyData) (xs : List α)
    (h0 : src ρ = .ok (xs.map enc)) (h1 : ∀ x ∈ xs, g (enc x) = .ok (as x)) (h3 : ∀ x ∈ xs, fe (setsD (wipeD ρ own) is (as x)) = .exc ex ∨ ∃ d, True ∧ fe (setsD (wipeD ρ own) is (as x)) = .ok d) :
    compX src g is own cYes fe ρ = .exc ex ∨ ∃ ds, compX src g is own cYes fe ρ = .ok (.list ds) := by
  rcases compX_any (R := fun _ => True) enc as xs h0 h1 h3 with i | ⟨ds, _, _, i⟩
  · exact .inl i
  · exact .inr ⟨ds, i⟩
theorem read_any {t : Str} (hl : Low t) (hz : t.length ≤ 1000) : g_read [.str t] = .exc "BadText" ∨ ∃ b : Bel, b.Ok ∧ beltT b = t ∧ g_read [.str t] = .ok (eB b) := by
  obtain ⟨ps, e, hn, hp⟩ := splitD_any (y := "|") (s := 124) (by decide) (by decide) hl hz
  unfold g_read F_read
  simp only [px, px2, Res.bind_ok, strT_s, e]
  by_cases h3 : ps.length = 3
  case neg =>
    have q : decide ((ps.length : Int) = 3) = false := decide_eq_false (by omega)
    simp only [px, px2, Res.bind_ok, q, Bool.not_false]
    exact .inl rfl
  obtain ⟨a, b, c, rfl⟩ := len3T h3
  have ha := hp a (by simp)
  have hb := hp b (by simp)
  have hc := hp c (by simp)
  have q3 : decide (((0 + 1 + 1 + 1 : Nat) : Int) = 3) = true := by decide
  simp only [px, px2, Res.bind_ok, rd3, q3, Bool.not_true]
  -- the spots
  generalize hr : compX _ _ _ _ _ _ _ = r
  have hr1 : r = .exc "BadText" ∨ ∃ ds, r = .ok (.list ds) := by
    rw [← hr]
    have pz := parts_in_any (m := 3) hb.1 hb.2
    rw [show ((3 : Nat) : Int) = 3 from rfl] at pz
    rcases pz with z | ⟨pss, _, h2, z⟩
    · refine .inl ?_
      unfold compX
      simp only [px, px2, Res.bind_ok, rd3, z]
      rfl
    · refine compX_any2 (fun l : List Str => PyData.list (l.map .str)) (fun l => l.map .str) pss (by simp only [px, px2, Res.bind_ok, rd3, z]) (fun x hx => by
        obtain ⟨u, v, w, rfl⟩ := len3T (h2 x hx).1
        rfl) (fun x hx => by
        obtain ⟨u, v, w, rfl⟩ := len3T (h2 x hx).1
        have hu := (h2 _ hx).2 u (by simp)
        have hv := (h2 _ hx).2 v (by simp)
        have hw := (h2 _ hx).2 w (by simp)
        simp only [px, px2, Res.bind_ok]
        rcases number_in_any hu.1 hu.2 with z | ⟨n, _, z⟩
        · rw [z]; exact .inl rfl
        rcases number_in_any hv.1 hv.2 with y | ⟨k, _, y⟩
        · rw [z, y]; exact .inl rfl
        rcases numbers_in_any hw.1 hw.2 with x | ⟨ds, _, _, x⟩
        · rw [z, y, x]; exact .inl rfl
        · rw [z, y, x]; exact .inr ⟨_, trivial, rfl⟩)
  rcases hr1 with rfl | ⟨sp, rfl⟩
  · exact .inl rfl
  simp only [px, px2, Res.bind_ok, rd3]
  generalize hr : compX _ _ _ _ _ _ _ = r
  have hr1 : r = .exc "BadText" ∨ ∃ ds, r = .ok (.list ds) := by
    rw [← hr]
    have pz := parts_in_any (m := 2) hc.1 hc.2
    rw [show ((2 : Nat) : Int) = 2 from rfl] at pz
    rcases pz with z | ⟨pss, _, h2, z⟩
    · refine .inl ?_
      unfold compX
      simp only [px, px2, Res.bind_ok, rd3, z]
      rfl
    · refine compX_any2 (fun l : List Str => PyData.list (l.map .str)) (fun l => l.map .str) pss (by simp only [px, px2, Res.bind_ok, rd3, z]) (fun x hx => by
        obtain ⟨u, v, rfl⟩ := len2T (h2 x hx).1
        rfl) (fun x hx => by
        obtain ⟨u, v, rfl⟩ := len2T (h2 x hx).1
        have hu := (h2 _ hx).2 u (by simp)
        have hv := (h2 _ hx).2 v (by simp)
        simp only [px, px2, Res.bind_ok]
        rcases number_in_any hu.1 hu.2 with z | ⟨n, _, z⟩
        · rw [z]; exact .inl rfl
        rcases number_in_any hv.1 hv.2 with y | ⟨k, _, y⟩
        · rw [z, y]; exact .inl rfl
        · rw [z, y]; exact .inr ⟨_, trivial, rfl⟩)
  rcases hr1 with rfl | ⟨ki, rfl⟩
  · exact .inl rfl
  simp only [px, px2, Res.bind_ok, rd3]
  rcases numbers_in_any ha.1 ha.2 with z | ⟨fs, _, _, z⟩
  · rw [z]; exact .inl rfl
  simp only [z, px, px2, Res.bind_ok, rd3, is_belt_any]
  cases hB : beltB (.tuple [.tuple fs, .tuple sp, .tuple ki]) with
  | false =>
    simp only [px, px2, Res.bind_ok, orT_t', Bool.not_false]
    exact .inl rfl
  | true =>
    obtain ⟨bb, ok, eb⟩ := beltB_is hB
    rw [eb]
    simp only [px, px2, Res.bind_ok, orT_f, Bool.not_true, belt_text_ok ok, neD_txt]
    cases q : beltT bb == t with
    | false =>
      simp only [Bool.not_false]
      exact .inl rfl
    | true => exact .inr ⟨bb, ok, eq_of_beq q, rfl⟩
end PX

/-! plain laws: k50 -/
namespace PX
open PySem PySem.Spec PyProof.Rows L2 LamX HotX L2H TL
abbrev cs7 : List Str := ["BadBelt", "BadPlan", "BadBottle", "BadNumber", "BadPaper", "NoPlan", "BadText"]
theorem eN_lay (l : List Nat) : (eN l).canLay0 = true ∧ (eN l).depth ≤ 3 := by
  have h1 : PyData.canLayAll0 (l.map fun n : Nat => PyData.int (n : Int)) = true := by
    induction l with
    | nil => rfl
    | cons a r ih => exact ih
  have h2 : PyData.depthAll (l.map fun n : Nat => PyData.int (n : Int)) ≤ 1 := by
    clear h1
    induction l with
    | nil => simp [PyData.depthAll]
    | cons a r ih => simp [PyData.depthAll, PyData.depth]; exact ih
  exact ⟨h1, by simp only [eN, PyData.depth]; omega⟩
theorem lay_map {α : Type} {e : α → PyData} (h : ∀ x, (e x).canLay0 = true ∧ (e x).depth ≤ 10) : ∀ l : List α, PyData.canLayAll0 (l.map e) = true ∧ PyData.depthAll (l.map e) ≤ 10
  | [] => ⟨rfl, by simp [PyData.depthAll]⟩
  | x :: l => by
    obtain ⟨h1, h2⟩ := h x
    obtain ⟨i1, i2⟩ := lay_map h l
    refine ⟨?_, by simp only [List.map_cons, PyData.depthAll]; omega⟩
    show ((e x).canLay0 && PyData.canLayAll0 (l.map e)) = true
    rw [h1, i1]
    rfl
theorem eS_lay (s : Spt) : (eS s).canLay0 = true ∧ (eS s).depth ≤ 10 := by
  obtain ⟨h1, h2⟩ := eN_lay s.2.2
  refine ⟨?_, ?_⟩
  · show (true && (true && ((eN s.2.2).canLay0 && true))) = true
    rw [h1]
    rfl
  · simp only [eS, PyData.depth, PyData.depthAll]
    omega
theorem eK_lay (s : Int × Int) : (eK s).canLay0 = true ∧ (eK s).depth ≤ 10 := ⟨rfl, by simp only [eK, PyData.depth, PyData.depthAll]; omega⟩
theorem eB_lay (b : Bel) : (eB b).canLay0 = true ∧ (eB b).depth ≤ 64 := by
  obtain ⟨f1, f2⟩ := lay_map (e := fun n : Int => PyData.int n) (fun x => ⟨rfl, by simp [PyData.depth]⟩) b.fs
  obtain ⟨s1, s2⟩ := lay_map eS_lay b.ss
  obtain ⟨k1, k2⟩ := lay_map eK_lay b.ks
  refine ⟨?_, ?_⟩
  · show (PyData.canLayAll0 (b.fs.map fun n => .int n) && (PyData.canLayAll0 (b.ss.map eS) && (PyData.canLayAll0 (b.ks.map eK) && true))) = true
    rw [f1, s1, k1]
    rfl
  · simp only [eB, eZ, PyData.depth, PyData.depthAll]
    omega
theorem neD_eB (b : Bel) : neD (eB b) (eB b) = .ok (.bool false) := neD_self (eB_lay b).1 (eB_lay b).2
theorem cutS_mem {z : Str} {lo hi : Option Int} {c : Nat} (h : c ∈ tl (cutS z lo hi)) : c ∈ tl z := by
  have h : c ∈ ((z.cps.toList.drop (HT.sIx z.length 0 lo)).take (HT.sIx z.length z.length hi - HT.sIx z.length 0 lo)).toArray.toList := h
  exact List.mem_of_mem_drop (List.mem_of_mem_take h)
theorem cutS_low {z : Str} (h : Low z) (lo hi : Option Int) : Low (cutS z lo hi) := fun c hc => h c (cutS_mem hc)
theorem sliceS_low {z : Str} (h : Low z) (hz : z.length ≤ 1000) (lo hi : Option Int) : sliceS lo hi (.str z) = .ok (.str (cutS z lo hi)) := by
  unfold sliceS
  have := cutS_length z lo hi
  exact if_pos ⟨by rw [sizeLine_eq]; omega, okS_low (cutS_low h lo hi) (by omega)⟩
theorem idx_pk9 (i : Int) : ∃ sg : Str, Low sg ∧ sg.length ≤ 1 ∧ idxD (.list [.str "0", .str "1", .str ",", .str ":", .str "|", .str " ", .str "-", .str "", .str "x"]) (.int (i % 9)) = .ok (.str sg) := by
  have h1 : 0 ≤ i % 9 := Int.emod_nonneg _ (by decide)
  have h2 : i % 9 < 9 := Int.emod_lt_of_pos _ (by decide)
  generalize i % 9 = k at h1 h2 ⊢
  obtain ⟨n, rfl⟩ := Int.eq_ofNat_of_zero_le h1
  have h3 : n < 9 := by omega
  match n, h3 with
  | 0, _ => exact ⟨"0", low_lit (by decide), by decide, rfl⟩
  | 1, _ => exact ⟨"1", low_lit (by decide), by decide, rfl⟩
  | 2, _ => exact ⟨",", low_lit (by decide), by decide, rfl⟩
  | 3, _ => exact ⟨":", low_lit (by decide), by decide, rfl⟩
  | 4, _ => exact ⟨"|", low_lit (by decide), by decide, rfl⟩
  | 5, _ => exact ⟨" ", low_lit (by decide), by decide, rfl⟩
  | 6, _ => exact ⟨"-", low_lit (by decide), by decide, rfl⟩
  | 7, _ => exact ⟨"", low_lit (by decide), by decide, rfl⟩
  | 8, _ => exact ⟨"x", low_lit (by decide), by decide, rfl⟩
theorem beltT_low (b : Bel) : Low (beltT b) := low_app (low_app (low_app (low_app (numsT_low _) low_c.2.1) (low_spots b)) low_c.2.1) (low_kicks b)
theorem eqD_eB_str (b : Bel) (x : Str) : eqD (eB b) (.str x) = .ok (.bool false) := by
  unfold eqD
  rw [if_pos (Nat.le_trans (Nat.min_le_right _ _) (by simp [PyData.depth]))]
  rfl
theorem lenD_str (x : Str) : lenD [.str x] = .ok (.int (x.length : Int)) := rfl
theorem isNone_n : isNone .none = true := rfl
theorem law_true (ns : List Int) (hn : ns.length ≤ 63) : g_law [.list (ns.map .int)] = .ok (.bool true) := by
  have n1 : ("BadBelt" : Str) ∈ cs7 := by decide
  have n2 : ("BadText" : Str) ∈ cs7 := by decide
  have tk : ∀ d : PyData, toldQ cs7 (.ok d) = .ok d := fun _ => rfl
  unfold g_law F_law
  simp only [px, px2, Res.bind_ok, minD_2, maxD_2]
  rw [rngL_to (by omega)]
  simp only [px, px2, Res.bind_ok]
  rw [forL_same (fun n : Nat => PyData.int (n : Int)) (fun n => [.int (n : Int)]) (List.range (max (1 : Int) (min 3 (ns.length : Int))).toNat) (fun _ _ => rfl) fun k _ => ?_]
  · simp only [px, px2, Res.bind_ok]
  · simp only [px, px2, Res.bind_ok, law_cell_ok ns k hn, law_drawn_ok, rngL_to (n := 5) (by decide)]
    generalize drawnI (cellI ns k) (k : Int) = more
    rw [forL_same (fun n : Nat => PyData.int (n : Int)) (fun n => [.int (n : Int)]) (List.range (5 : Int).toNat) (fun _ _ => rfl) fun j _ => ?_]
    · simp only [px, px2, Res.bind_ok]
      rw [addD_ll (by decide)]
      simp only [px, px2, Res.bind_ok]
      rw [forL_id _ fun d hd => ?_]
      · have e5 : neD (.tuple [.tuple [.int 5], .tuple [], .tuple []]) (.tuple [.tuple [.int 5], .tuple [], .tuple []]) = .ok (.bool false) := neD_self rfl (by simp [PyData.depth, PyData.depthAll])
        simp only [px, px2, Res.bind_ok, read_5, e5, orT_f, written_no, toldQ_exc n1, neD_txt, beq_self_eq_true, Bool.not_true]
      · have hd : d ∈ bads1 := by
          simp only [List.mem_cons, List.not_mem_nil, or_false] at hd
          unfold bads1
          simp only [List.mem_cons, List.not_mem_nil, or_false]
          rcases hd with h | h | h | h | h | h | h | h | h | h | h | h | h | h | h | h | h | h | h <;> simp [h]
        simp only [px, px2, Res.bind_ok, bads1_ok hd, toldQ_exc n2, neD_txt, beq_self_eq_true, Bool.not_true]
    · simp only [px, px2, Res.bind_ok, law_drawn_ok]
      generalize drawnI more (10 + (j : Int)) = m
      have hb := beltOf_ok m (show (0 : Int) ≤ 8 by decide) (show (8 : Int) ≤ 8 by decide)
      simp only [px, px2, Res.bind_ok, law_belt_ok m (show (0 : Int) ≤ 8 by decide) (show (8 : Int) ≤ 8 by decide)]
      revert hb
      generalize beltOf m 8 = b
      intro hb
      have hlo := beltT_low b
      have hle := beltT_len hb
      simp only [px, px2, Res.bind_ok, law_written_ok hb, written_ok hb, read_ok hb, neD_txt, beq_self_eq_true, Bool.not_true, orT_f, neD_eB, rngL_to (n := 6) (by decide)]
      rw [forL_same (fun n : Nat => PyData.int (n : Int)) (fun n => [.int (n : Int)]) (List.range (6 : Int).toNat) (fun _ _ => rfl) fun n _ => ?_]
      · simp only [px, px2, Res.bind_ok]
      · simp only [px, px2, Res.bind_ok, law_drawn_ok]
        generalize drawnI m (n : Int) = q
        obtain ⟨sg, s1, s2, s3⟩ := idx_pk9 (q / 4096)
        simp only [px, px2, Res.bind_ok, dm, lenD_str]
        rw [modD_i (by omega)]
        simp only [px, px2, Res.bind_ok, dm, s3, toI, sliceS_low hlo (Nat.le_trans hle (by decide))]
        generalize q / 16 % ((beltT b).length + 1) = sp
        have l1 := cutS_length (beltT b) none (some sp)
        have l2 := cutS_length (beltT b) (some (sp + q / 1048576 % 2)) none
        rw [addD_ss (by omega)]
        simp only [px, px2, Res.bind_ok]
        rw [addD_ss (by rw [len_app]; omega)]
        simp only [px, px2, Res.bind_ok]
        have hL : Low (cutS (beltT b) none (some sp) ++ sg ++ cutS (beltT b) (some (sp + q / 1048576 % 2)) none) := low_app (low_app (cutS_low hlo _ _) s1) (cutS_low hlo _ _)
        have hZ : (cutS (beltT b) none (some sp) ++ sg ++ cutS (beltT b) (some (sp + q / 1048576 % 2)) none).length ≤ 1000 := by
          rw [len_app, len_app]
          omega
        generalize cutS (beltT b) none (some sp) ++ sg ++ cutS (beltT b) (some (sp + q / 1048576 % 2)) none = t at hL hZ ⊢
        rcases read_any hL hZ with z | ⟨b2, ok2, e2, z⟩
        · have hne : (t == beltT b) = false := by
            refine beq_false_of_ne fun e => ?_
            rw [e, read_ok hb] at z
            cases z
          simp only [px, px2, Res.bind_ok, z, toldQ_exc n2, eqD_txt, beq_self_eq_true, hne]
        · simp only [px, px2, Res.bind_ok, z, tk, eqD_eB_str, need_belt_ok ok2, isNone_n, Bool.not_true, orT_f, law_written_ok ok2, e2, neD_txt, beq_self_eq_true]
end PX

theorem PySem.Challenge.cw_beltlooks_k50_whole_texts_holds : PySem.Challenge.rw_beltlooks_k50_whole_texts.Holds := by
  exact PX.holds_of fun ns h => PX.law_true ns h
